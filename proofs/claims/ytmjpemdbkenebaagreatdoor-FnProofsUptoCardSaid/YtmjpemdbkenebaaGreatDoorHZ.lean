/- Part of a proof that the program answers as the reference does: ZHC27, ZHC28, ZHC29, ZHC32, ZHC30, ZHC31, ZHC33. -/
import Derived.Test.YtmjpemdbkenebaaGreatDoorHP
import Derived.Test.YtmjpemdbkenebaaGreatDoorHY
set_option linter.unusedVariables false
set_option linter.unusedSimpArgs false
namespace Go.H.Tryz
open Go Go.H

theorem Just.zeroTup {st st1 : St} {x : PV} (hs : Sub st st1) : retR (Just (.tup [tree zq8l, x]) st) (.tup [.agg [.int .i64 0, .int .i64 0, .str [], .sl 0 true []], x]) st1 :=
 zqcd (Conv.trans (Conv.tup (Conv.cons (zq88 _ 0 0 [] 0 true [] (.inr rfl)) (Conv.refl _ _))) (Conv.sub hs)) ⟨rfl, rfl⟩
theorem zq1n (p : Dc → Bool) (ts : List Dc) (g : FuncId) (us vs : List PV) (hl : ts.length ≤ 1000000) (st : St) (hg : ∀ t ∈ ts, zq5 prog g (us ++ [decl t] ++ vs) st (Just (.bool (p t)) st)) :
  zq5 prog n_slices_IndexFunc_impl_Decl_impl_Decl [zqa7 ts, .fn (.func g) us vs] st (Just (.int .i64 (fstOf p ts)) st) := by
 apply zq3a
 unfold zq1q
 generalize hv : fstOf p ts = v
 try simp
 refine zqz (β := Unit) ts (fun _ i => [.int .i64 (i : Int)]) (fun _ => st) (fun _ i rest => fstGo p i rest = v) ?_ ?_ () hv
 ·intro i x rest _ hi hx hq k
  rw [fstGo] at hq
  try simp [hi, ia_decl _ hx]
  refine zq1 (by simpa using hg x (List.mem_of_getElem? hx)) ?_
  try simp
  refine zq50 (fun h => Just.int (by rw [← hq, if_pos h])) (fun h => ?_)
  rw [W_idx hi (by unfold maxLen; omega)]
  exact k () (by rw [← hq, if_neg (by rw [h]; simp)])
 ·intro _ hq
  try simp
  exact Just.int hq
theorem zq75 (d : Dc) (n : List UInt8) (fam : Bool) (st : St) : zq5 prog n_impl_checker_declared_1 [decl d, .ref [.str n], .ref [.bool fam]] st (Just (.bool (decide (d.name = n) && decide (d.fam = fam))) st) := by
 apply zq7a
 unfold zq3s
 refine zq9 (zq77 _) ?_
 try simp
 refine zql (fun h => ?_) (fun h => Just.bool (by rw [decide_eq_false h]; rfl))
 exact Just.bool (by rw [decide_eq_true h]; cases d.fam <;> cases fam <;> rfl)
def declP (x : Option Tr) : PV := match x with | some a => .tup [tree a, .bool true] | none => .tup [tree zq8l, .bool false]
theorem zq47 (b : Nat) (sig : List Dc) (hs : SigR sig) (n : List UInt8) (fam : Bool) (k : Int) (st : St) (hb : st b = some (ckr sig k)) :
  zq5 prog n_impl_checker_declared [.ptr b 0, .str n, .bool fam] st (Just (declP (zq2p sig n fam)) st) := by
 apply zq8o
 unfold zq48
 rw [← find_named hs.apart]
 refine zq9 rfl ?_
 refine zq9 rfl ?_
 intro b6 hb6
 have n6 : b ≠ b6 := fun e => by rw [← e, hb] at hb6; cases hb6
 have hsub : ∀ o, Sub st (upd st b6 o) := fun o => (Sub.refl st).put hb6
 have hb' : (upd st b6 (.cells [.int .i64 0, .int .i64 0, .str [], .sl 0 true []])) b = some (.cells [.int .i64 k, zqa7 sig]) := by rw [zq7 _ _ n6]; exact hb
 try simp [zq6 hb']
 refine zq1 (zq1n (fun d => decide (d.name = n) && decide (d.fam = fam)) sig n_impl_checker_declared_1 [] [.ref [.str n], .ref [.bool fam]] hs.len _ (fun x hx => zq75 x n fam _)) ?_
 try simp
 have hcase := zqkp (fun d : Dc => decide (d.name = n) && decide (d.fam = fam)) sig
 rcases hcase with ⟨e1, e2⟩ | ⟨j, hj, e1, e2, e3⟩
 ·rw [e1, e2]
  refine zql (fun h => ?_) (fun h => by omega)
  rw [zeroTree]
  try simp
  try simp [zq6 (zq2 _ _ _)]
  exact Just.zeroTup (hsub _)
 ·rw [e1, e3]
  refine zql (fun h => by omega) (fun h => ?_)
  try simp [zq6 hb', ia_decls hj]
  try simp [zq6 (zq2 _ _ _)]
  exact Just.ret (hsub _)
theorem zqfk (ctx : List Tr) (a : Tr) (hl : ctx.length ≤ 1000000) (st : St) : zq5 prog n_impl_behind [trees ctx, tree a] st (Just (trees (ctx ++ [a])) st) := by
 apply c_impl_behind
 unfold zqg3
 refine zq9 (zqf _) ?_
 try simp
 refine zq1 (zq41 ctx false _) ?_
 try simp
 refine zqlb (zq2n _ _ _ _) (by simp) (by simp; omega) fun p2 s2 hg2 => ?_
 have := hg2.freeze
 exact Just.conv (by simpa using this)
def AtR (h : TypeId) (pl : Int) (Q : Int → Int → St → Prop) : Res → St → Prop := fun q s => ∃ c p, Q c p s ∧ ((c = 0 ∧ q = .ret (.tup [])) ∨ (c ≠ 0 ∧ q = .pan (halt h c pl)))
theorem h_impl_at (pl : Int) (g : FuncId) (caps : List PV) (st : St) (Q : Int → Int → St → Prop) (hc : ∀ b, st b = none → zq5 prog g caps (upd st b (.cells [.int .i64 0, .int .i64 0])) (Caught ty_impl_halt b Q)) :
  zq5 prog n_impl_at [.int .i64 pl, .fn (.func g) [] caps] st (AtR ty_impl_halt pl Q) := by
 apply c_impl_at
 unfold b_impl_at
 refine zq15 (zq3q g caps st Q hc) (fun p s h => ?_) (fun p s h => by obtain ⟨c, p', h, _⟩ := h; cases h)
 obtain ⟨c, p', h, hq⟩ := h
 cases h
 intro b4 hb4
 have hsub : ∀ o, Sub s (upd s b4 o) := fun o => (Sub.refl s).put hb4
 try simp
 try simp [zq6 (zq2 _ _ _)]
 by_cases hc0 : c = 0
 ·subst hc0
  try simp
  exact zq1h (hsub _) ⟨0, p', hq, .inl ⟨rfl, rfl⟩⟩
 ·rw [decide_eq_false hc0]
  try simp
  refine zqy (zqw c pl hc0 _) (fun h => absurd h hc0) (fun _ => ?_)
  exact zq56 (Conv.sub (hsub _)) ⟨c, p', hq, .inr ⟨hc0, rfl⟩⟩
def LeftR (h : TypeId) (b b9 : Nat) (sig : List Dc) (x : (Int ⊕ Tr) × Int) (st : St) : Res → St → Prop := fun q s => match x.1 with
 | .inr r => q = .ret (.tup []) ∧ s = upd (upd st b (ckr sig x.2)) b9 (.cells (tree r).cells)
 | .inl c => q = .pan (halt h c 0) ∧ s = upd st b (ckr sig x.2)
theorem zqa5 (b b9 : Nat) (sig : List Dc) (t a x y : Tr) (k : Int) (hxy : a.kids = [x, y]) (hx : FF x) (hy : FK y) (ht : t.isTerm false = true) (hts : t.size ≤ 900000) (h0 : 0 ≤ k) (h1 : k ≤ 20000) (st : St) (hb : st b = some (ckr sig k)) (z0 z1 z2 z3 : PV) (h9 : st b9 = some (.cells [z0, z1, z2, z3])) (hne : b ≠ b9) :
  zq5 prog n_impl_checker_left_1 [.ref [.ptr b 0], .ref (tree t).cells, .ref (tree a).cells, .ptr b9 0] st (LeftR ty_impl_halt b b9 sig (subT 100000000 t (zq2x x) y 0 k) st) := by
 apply zqa8
 unfold zq53
 have x0 : a.kids[0]? = some x := by rw [hxy]; rfl
 have y1 : a.kids[1]? = some y := by rw [hxy]; rfl
 try simp [zq6l _ x0, zqea _ y1]
 refine zq1 (h_impl_erase x hx.1 _) ?_
 try simp
 refine zq89 (zqhn [zqa7 sig] b 100000000 t (zq2x x) y 0 k _ (zqgs t ht) (by omega) hx.simple hy.lamy (by have := hy.2; omega) h0 h1 (by have := hy.2; omega) hb) (fun r k' hr => ?_) (fun c k' hc => ?_)
 ·have e9 : (upd st b (cntR [zqa7 sig] k')) b9 = some (.cells [z0, z1, z2, z3]) := by rw [zq7 _ _ hne.symm]; exact h9
  rw [zqh _ _ _ _ _ _ _ e9]
  try simp
  exact zq29 (by rw [hr]; exact ⟨rfl, rfl⟩)
 ·exact panR_same (by rw [hc]; exact ⟨rfl, rfl⟩)
def LeftQ (b b9 : Nat) (sig : List Dc) (x : (Int ⊕ Tr) × Int) (st : St) (c p : Int) (s : St) : Prop := p = 0 ∧ match x.1 with
 | .inr r => c = 0 ∧ s = upd (upd st b (ckr sig x.2)) b9 (.cells (tree r).cells)
 | .inl c' => c = c' ∧ s = upd st b (ckr sig x.2)
theorem zqcy (b : Nat) (sig : List Dc) (t a : Tr) (p k : Int) (ha : FK a) (hk : a.kind = 2) (ht : t.isTerm false = true) (hts : t.size ≤ 900000) (h0 : 0 ≤ k) (h1 : k ≤ 20000) (st : St) (hb : st b = some (ckr sig k)) :
  zq5 prog n_impl_checker_left [.ptr b 0, tree t, tree a, .int .i64 p] st (zq8a ty_impl_halt b (ckr sig) tree (leftC t a p k) st) := by
 obtain ⟨x, y, hxy, hx, hy, hsz⟩ := fk_pi ha hk
 apply zqdj
 unfold zq6h
 generalize hv : leftC t a p k = v
 unfold leftC at hv
 rw [kid0 hxy, kid1 hxy] at hv
 refine zq9 rfl ?_
 refine zq9 (zqf _) ?_
 refine zq9 (zqf _) ?_
 intro b8 hb8
 have n8 : b ≠ b8 := fun e => by rw [← e, hb] at hb8; cases hb8
 rw [zeroTree]
 try simp
 intro b9 hb9
 have n98 : b9 ≠ b8 := fun e => by rw [e, zq2] at hb9; cases hb9
 rw [zq7 _ _ n98] at hb9
 have n9 : b ≠ b9 := fun e => by rw [← e, hb] at hb9; cases hb9
 try simp
 generalize hs1 : upd (upd st b8 (.cells [.int .i64 0, .int .i64 0, .str [], .sl 0 true []])) b9 (.cells [.int .i64 0, .int .i64 0, .str [], .sl 0 true []]) = s1
 have eb : s1 b = some (ckr sig k) := by rw [← hs1, zq7 _ _ n9, zq7 _ _ n8]; exact hb
 have e8 : s1 b8 = some (.cells [.int .i64 0, .int .i64 0, .str [], .sl 0 true []]) := by rw [← hs1, zq7 _ _ n98.symm]; exact zq2 _ _ _
 have e9 : s1 b9 = some (.cells [.int .i64 0, .int .i64 0, .str [], .sl 0 true []]) := by rw [← hs1]; exact zq2 _ _ _
 have ar : zq16 b st s1 := by rw [← hs1]; exact ((zq16.refl b st).put hb8 _).put hb9 _
 have hf := zqgu 100000000 t (zq2x x) y 0 k (zqgs t ht) hy.lamy hx.simple h0 h1 (by have := hy.2; omega)
 refine zq15 (h_impl_at p n_impl_checker_left_1 [.ref [.ptr b 0], .ref (tree t).cells, .ref (tree a).cells, .ptr b9 0] s1 (LeftQ b b9 sig (subT 100000000 t (zq2x x) y 0 k) s1) (fun bb hbb => ?_)) (fun q s h => ?_) (fun q s h => ?_)
 ·have m1 : bb ≠ b := fun e => by rw [e, eb] at hbb; cases hbb
  have m9 : bb ≠ b9 := fun e => by rw [e, e9] at hbb; cases hbb
  have fb : (upd s1 bb (.cells [.int .i64 0, .int .i64 0])) b = some (ckr sig k) := by rw [zq7 _ _ m1.symm]; exact eb
  have f9 : (upd s1 bb (.cells [.int .i64 0, .int .i64 0])) b9 = some (.cells [.int .i64 0, .int .i64 0, .str [], .sl 0 true []]) := by rw [zq7 _ _ m9.symm]; exact e9
  refine (zqa5 b b9 sig t a x y k hxy hx hy ht hts h0 h1 _ fb _ _ _ _ f9 n9).mono (fun q s h => ?_)
  match hr : subT 100000000 t (zq2x x) y 0 k with
  | (.inr r, k') =>
    rw [hr] at h
    obtain ⟨h, rfl⟩ := h
    refine ⟨upd (upd s1 b (ckr sig k')) b9 (.cells (tree r).cells), by rw [zq7 _ _ m9, zq7 _ _ m1]; exact hbb, ?_, .inl ⟨h, rfl, rfl, rfl⟩⟩
    rw [zq4y _ _ _ m1, zq4y _ _ _ m9]
  | (.inl c', k') =>
    rw [hr] at h
    obtain ⟨h, rfl⟩ := h
    refine ⟨upd s1 b (ckr sig k'), by rw [zq7 _ _ m1]; exact hbb, ?_, .inr ⟨c', 0, h, rfl, rfl, rfl⟩⟩
    rw [zq4y _ _ _ m1]
 ·obtain ⟨c, p', hq, h⟩ := h
  match hr : subT 100000000 t (zq2x x) y 0 k with
  | (.inr r, k') =>
    rw [hr] at hq hv
    obtain ⟨_, rfl, rfl⟩ := hq
    rcases h with ⟨_, h⟩ | ⟨h, _⟩
    ·simp [zq6 (zq2 _ _ _)]
     have i8 : (upd (upd s1 b (ckr sig k')) b9 (.cells (tree r).cells)) b8 = some (.cells [.int .i64 0, .int .i64 0, .str [], .sl 0 true []]) := by rw [zq7 _ _ n98.symm, zq7 _ _ n8.symm]; exact e8
     rw [zqh _ _ _ _ _ _ _ i8]
     try simp [zq6 (zq2 _ _ _)]
     refine zq8a.ret rfl hv.symm (((ar.draw _).put hb9 _).put hb8 _) ?_
     rw [zq7 _ _ n8, zq7 _ _ n9, zq2]
    ·exact absurd rfl h
  | (.inl c', k') =>
    rw [hr] at hq hf
    obtain ⟨_, rfl, rfl⟩ := hq
    rcases h with ⟨h, _⟩ | ⟨_, h⟩
    ·exact absurd h (hf.2.2.1 _ rfl)
    ·cases h
 ·obtain ⟨c, p', hq, h⟩ := h
  match hr : subT 100000000 t (zq2x x) y 0 k with
  | (.inr r, k') =>
    rw [hr] at hq
    obtain ⟨_, rfl, rfl⟩ := hq
    rcases h with ⟨_, h⟩ | ⟨h, _⟩
    ·cases h
    ·exact absurd rfl h
  | (.inl c', k') =>
    rw [hr] at hq hv
    obtain ⟨_, rfl, rfl⟩ := hq
    rcases h with ⟨_, h⟩ | ⟨_, h⟩
    ·cases h
    ·cases h
     exact zq8a.pan hv.symm (ar.draw _) (zq2 _ _ _)
end Go.H.Tryz
set_option linter.unusedVariables false
set_option linter.unusedSimpArgs false
namespace Go.H.Tryz
open Go Go.H

def zqle (L : List (List Tr)) : Nat := (L.map fun ks => Tr.sizes ks + 1).sum
def todoS (L : List (List Tr)) : Nat := (L.map fun ks => Tr.sizes ks).sum
theorem zq3j (L M : List (List Tr)) : zqle (L ++ M) = zqle L + zqle M := by simp [zqle]
theorem zqbg (L M : List (List Tr)) : todoS (L ++ M) = todoS L + todoS M := by simp [todoS]
theorem zqld (L : List (List Tr)) : L.length ≤ zqle L := by
 unfold zqle
 induction L with
 | nil => simp
 | cons x xs ih => simp only [List.map_cons, List.sum_cons, List.length_cons]; omega
def more (ks : List Tr) : List (List Tr) := ks.filterMap fun k => if k.kids = [] then none else some k.kids
theorem zqgx (k : Tr) (ks : List Tr) : more (k :: ks) = (if k.kids = [] then [] else [k.kids]) ++ more ks := by
 unfold more
 by_cases h : k.kids = [] <;> simp [h]
theorem more_S (ks : List Tr) : todoS (more ks) + ks.length = Tr.sizes ks := by
 induction ks with
 | nil => rfl
 | cons k ks ih =>
   rw [zqgx, zqbg]
   have e : Tr.sizes (k :: ks) = k.size + Tr.sizes ks := by simp [Tr.sizes]
   have e2 := Tr.size_kids k
   rw [e, e2]
   by_cases h : k.kids = []
   ·simp [h, todoS, Tr.sizes] at ih ⊢; omega
   ·simp [h, todoS] at ih ⊢; omega
theorem more_W (ks : List Tr) : zqle (more ks) ≤ Tr.sizes ks := by
 induction ks with
 | nil => simp [more, zqle, Tr.sizes]
 | cons k ks ih =>
   rw [zqgx, zq3j]
   have e : Tr.sizes (k :: ks) = k.size + Tr.sizes ks := by simp [Tr.sizes]
   have e2 := Tr.size_kids k
   rw [e, e2]
   by_cases h : k.kids = []
   ·simp [h, zqle] at ih ⊢; omega
   ·simp [h, zqle] at ih ⊢; omega
structure TodoR (st s : St) (b n cap : Nat) (L : List (List Tr)) : Prop where
 row : ∃ xs, s b = some (.vec 1 xs cap) ∧ n ≤ xs.length ∧ xs.take n = L.map trees
 len : n = L.length
 room : n ≤ cap
 own : st b = none
 sub : Sub st s
def zqlg (kidsP v28 : PV) (X : List PV → St → Prop) (n30 : PV) (ls_1 : List PV) (st : St) (X_1 : List PV → St → Prop) : Prop :=
    qb (zqc .lss (ls_1.getD 1 .junk) n30) fun v32 =>
    cb v32 fun b_1 => br b_1
     (qb (q_ia 4 kidsP (ls_1.getD 1 .junk)) fun v33 =>
     qb (zq0 st true 4 v33) fun v34 =>
     zq8 st [.int .i64 0, .int .i64 0, .str [], .sl 0 true []] fun v7 st =>
     zq4 st 4 v7 v34 fun st =>
     qb (q_fa 3 v7) fun v35 =>
     qb (zq0 st false 1 v35) fun v36 =>
     qb (zq1j v36) fun v37 =>
     qb (zqc .gtr v37 (.int .i64 0)) fun v38 =>
     cb v38 fun b_2 => br b_2
      (qb (q_fa 3 v7) fun v40 =>
      qb (zq0 st false 1 v40) fun v41 =>
      qb (zq24 1 1 0 [] [(0, v41)]) fun v42 =>
      zqo st 1 24 (ls_1.getD 0 .junk) v42 (fun v43 st =>
      qb (zqc .add (ls_1.getD 1 .junk) (.int .i64 1)) fun v44 =>
      X_1 [v43, v44] st))
      (qb (zqc .add (ls_1.getD 1 .junk) (.int .i64 1)) fun v44_1 =>
      X_1 [(ls_1.getD 0 .junk), v44_1] st))
     (X [v28, (ls_1.getD 0 .junk)] st)
theorem size_inner (st s : St) (b n cap : Nat) (L0 : List (List Tr)) (ks : List Tr) (v28 : PV) (X : List PV → St → Prop) (hw : zqle L0 + Tr.sizes ks ≤ 1000000) (h : TodoR st s b n cap L0)
  (hX : ∀ b n cap s, TodoR st s b n cap (L0 ++ more ks) → X [v28, .vsl b n cap] s) : hFix (zqlg (.sl 4 false (ks.map tree)) v28 X (.int .i64 ks.length)) [.vsl b n cap, .int .i64 0] s := by
 have hkl := Tr.len_sizes ks
 unfold zqlg
 try simp
 refine zqz (β := List (List Tr) × Nat × Nat × Nat × St) ks (fun z i => [.vsl z.2.1 z.2.2.1 z.2.2.2.1, .int .i64 (i : Int)]) (fun z => z.2.2.2.2)
   (fun z i rest => z.1 ++ more rest = L0 ++ more ks ∧ TodoR st z.2.2.2.2 z.2.1 z.2.2.1 z.2.2.2.1 z.1) ?_ ?_ (L0, b, n, cap, s) ⟨rfl, h⟩
 ·rintro i k rest ⟨L1, b, n, cap, s⟩ hi hk ⟨hq1, h⟩ kk
  simp only at hq1 h
  obtain ⟨⟨xs, hb, hn, hx⟩, hl, hr, ho, hs⟩ := h
  try simp [hi, zq4r _ hk]
  intro b7 hb7
  have n7 : b ≠ b7 := fun e => by rw [← e, hb] at hb7; cases hb7
  try simp
  have e7 := zq2 s b7 (.cells (tree k).cells)
  have eb : (upd s b7 (.cells (tree k).cells)) b = some (.vec 1 xs cap) := by rw [zq7 _ _ n7]; exact hb
  have hs7 : Sub st (upd s b7 (.cells (tree k).cells)) := hs.put (hs.isNone hb7)
  generalize upd s b7 (.cells (tree k).cells) = s1 at e7 eb hs7
  try simp [zq6 e7]
  have hlen1 : zqle L1 ≤ 1000000 := by
   have h1 := congrArg zqle hq1
   rw [zq3j, zq3j] at h1
   have h2 := more_W ks
   omega
  have hlw1 := zqld L1
  refine zql (fun hk0 => ?_) (fun hk0 => ?_)
  ·have hkn : k.kids ≠ [] := by intro e; rw [e] at hk0; simp at hk0
   have ee : zq3m s1 1 (.vsl b n cap) = some (L1.map trees) := by unfold zq3m; simp only [eb]; rw [if_pos ⟨trivial, hn, trivial⟩, hx]
   have ey : zq3m s1 1 (.sl 1 true [.sl 4 false (k.kids.map tree)]) = some [trees k.kids] := zq2n _ _ _ _
   unfold zqo
   rw [ee, ey]
   refine ⟨by simp; omega, .inl fun b' cap' hb' hc' => ?_⟩
   rw [W_idx hi (by unfold maxLen; omega)]
   have hlen2 : (L1.map trees ++ [trees k.kids]).length = L1.length + 1 := by simp
   have htd : TodoR st (upd (del s1 b) b' (.vec 1 (L1.map trees ++ [trees k.kids]) cap')) b' (L1.length + 1) cap' (L1 ++ [k.kids]) := by
    refine ⟨⟨L1.map trees ++ [trees k.kids], zq2 _ _ _, by rw [hlen2]; omega, by rw [List.take_of_length_le (by rw [hlen2]; omega)]; simp⟩, by simp, by rw [hlen2] at hc'; exact hc', ?_, ?_⟩
    ·rcases hb' with hb' | hb'
     ·cases hb'; exact ho
     ·exact hs7.isNone hb'
    ·intro c o hc
     have c1 : c ≠ b := fun e => by rw [e, ho] at hc; cases hc
     have c2 : c ≠ b' := fun e => by
      rcases hb' with hb' | hb'
      ·cases hb'; exact c1 e
      ·have := hs7 c o hc
       rw [e, hb'] at this; cases this
     rw [zq7 _ _ c2, del_apply, if_neg c1]
     exact hs7 c o hc
   have hq2 : (L1 ++ [k.kids]) ++ more rest = L0 ++ more ks := by rw [← hq1, zqgx, if_neg hkn]; simp
   have hkk := kk (L1 ++ [k.kids], b', L1.length + 1, cap', upd (del s1 b) b' (.vec 1 (L1.map trees ++ [trees k.kids]) cap')) ⟨hq2, htd⟩
   rw [← hlen2] at hkk
   exact hkk
  ·have hkn : k.kids = [] := by
    cases hkk : k.kids with
    | nil => rfl
    | cons y ys => rw [hkk] at hk0; simp at hk0
   rw [W_idx hi (by unfold maxLen; omega)]
   refine kk (L1, b, n, cap, s1) ⟨?_, ⟨⟨xs, eb, hn, hx⟩, hl, hr, ho, hs7⟩⟩
   rw [← hq1, zqgx, if_pos hkn]; rfl
 ·rintro ⟨L1, b, n, cap, s⟩ ⟨hq1, h⟩
  simp only at hq1 h
  have e0 : more [] = [] := rfl
  rw [e0, List.append_nil] at hq1
  subst hq1
  try simp
  exact hX b n cap s h
def sizeBody (R : Res → St → Prop) (ls : List PV) (st : St) (X : List PV → St → Prop) : Prop :=
 qb (zq1j (ls.getD 1 .junk)) fun v12 =>
 qb (zqc .gtr v12 (.int .i64 0)) fun v13 =>
 cb v13 fun b => br b
  (qb (zq1j (ls.getD 1 .junk)) fun v16 =>
  qb (zqc .sub v16 (.int .i64 1)) fun v17 =>
  qb (q_ia 1 (ls.getD 1 .junk) v17) fun v18 =>
  qb (zq0 st false 1 v18) fun v19 =>
  qb (zq1j (ls.getD 1 .junk)) fun v22 =>
  qb (zqc .sub v22 (.int .i64 1)) fun v23 =>
  qb (zq1y 1 (ls.getD 1 .junk) none (some v23) none) fun v24 =>
  qb (zq1j v19) fun v27 =>
  qb (zqc .add (ls.getD 0 .junk) v27) fun v28 =>
  qb (zq1j v19) fun v30 =>
  hFix (zqlg v19 v28 X v30)
   [v24, (.int .i64 0)] st)
  (retR R (ls.getD 0 .junk) st)
theorem trees_one (ks : List Tr) : (trees ks).cells = [trees ks] := rfl
theorem size_loop (total : Nat) (ht : total ≤ 1000000) (st s : St) (b n cap : Nat) (L : List (List Tr)) (many : Int) (hm : 0 ≤ many) (hw : zqle L ≤ 1000000) (hq : many + todoS L = total) (h : TodoR st s b n cap L) :
  hFix (sizeBody (Just (.int .i64 total) st)) [.int .i64 many, .vsl b n cap] s := by
 unfold sizeBody
 try simp
 refine zq6o (σ := Int × List (List Tr) × Nat × Nat × Nat × St) (fun z => zqle z.2.1) (fun z => [.int .i64 z.1, .vsl z.2.2.1 z.2.2.2.1 z.2.2.2.2.1]) (fun z => z.2.2.2.2.2)
  (fun z => 0 ≤ z.1 ∧ zqle z.2.1 ≤ 1000000 ∧ z.1 + todoS z.2.1 = total ∧ TodoR st z.2.2.2.2.2 z.2.2.1 z.2.2.2.1 z.2.2.2.2.1 z.2.1) ?_ (many, L, b, n, cap, s) ⟨hm, hw, hq, h⟩
 rintro ⟨many, L, b, n, cap, s⟩ ⟨hm, hw, hq, h⟩ ih
 simp only at hm hw hq h ih
 obtain ⟨⟨xs, hb, hn, hx⟩, hl, hr, ho, hs⟩ := h
 try simp
 have hlw := zqld L
 refine zql (fun hpos => ?_) (fun hpos => ?_)
 ·obtain ⟨L0, ks, rfl⟩ : ∃ L0 ks, L = L0 ++ [ks] := ⟨L.dropLast, L.getLast (by intro e; rw [e] at hl; simp at hl; omega), (List.dropLast_concat_getLast _).symm⟩
  simp only [List.length_append, List.length_singleton] at hl
  rw [zq3j] at hw
  rw [zqbg] at hq
  have ekS : todoS [ks] = Tr.sizes ks := by simp [todoS]
  have ekW : zqle [ks] = Tr.sizes ks + 1 := by simp [zqle]
  rw [ekW] at hw
  rw [ekS] at hq
  have hkl := Tr.len_sizes ks
  have hL0 := zqld L0
  clear hlw
  have e1 : IntKind.i64.wrap ((n : Int) - 1) = ((n - 1 : Nat) : Int) := by rw [zqs (by omega) (by omega)]; omega
  rw [e1]
  have hget : xs[n - 1]? = some (trees ks) := by
   have h1 : (xs.take n)[n - 1]? = some (trees ks) := by
    rw [hx, List.map_append]
    rw [List.getElem?_append_right (by simp; omega)]
    have : n - 1 - (L0.map trees).length = 0 := by simp; omega
    rw [this]
    rfl
   rw [List.getElem?_take] at h1
   split at h1
   ·exact h1
   ·cases h1
  try simp
  rw [if_pos (by omega)]
  simp only [zq20]
  have e3 : ∀ agg k, zq0 s agg k (.eptr b 1 (n - 1) 0) = zq3n agg k (trees ks).cells := fun agg k => by rw [q_load_e hb hget]; rfl
  rw [e3, trees_one]
  have e2 : zq1y 1 (.vsl b n cap) none (some (.int .i64 ((n - 1 : Nat) : Int))) none = some (.vsl b (n - 1) cap) := by
   simp [zq1y, optI]; omega
  rw [e2]
  try simp
  rw [zqs (by omega) (by omega)]
  refine size_inner st s b (n - 1) cap L0 ks _ _ (by omega) ⟨⟨xs, hb, by omega, ?_⟩, by omega, by omega, ho, hs⟩ fun b1 n1 cap1 s1 h1 => ?_
  rotate_left
  ·have hS := more_S ks
   have hW := more_W ks
   refine ih (many + ks.length, L0 ++ more ks, b1, n1, cap1, s1) ?_ ⟨by simp only; omega, ?_, ?_, h1⟩
   ·simp only
    rw [zq3j, zq3j, ekW]
    omega
   ·simp only
    rw [zq3j]
    omega
   ·simp only
    rw [zqbg]
    omega
  ·have h1 : xs.take (n - 1) = (xs.take n).take (n - 1) := by rw [List.take_take]; congr 1; omega
   rw [h1, hx, List.map_append, List.take_append_of_le_length (by simp; omega), List.take_of_length_le (by simp; omega)]
 ·have hl0 : L = [] := List.length_eq_zero_iff.1 (by omega)
  subst hl0
  simp [todoS] at hq
  exact Just.int hq hs

variable {w0 : World} {st0 : St} {d0 : List Deferred}
theorem step_q {ops : Array Oper} {Q : Exit → Act → World → Prop} {i : Nat} {o : Oper} {env : List PV} {st : St} {a : Act} {w : World} {p : PV} {K : Act → World → Prop} (hi : ops[i]? = some o) (hg : o.guard = none) (hs : Sim false w0 st0 d0 env st a w)
  (hp : opQ TT st (evO env) o.op = some p) (hk : ∀ a' w', Sim false w0 st0 d0 (putE env o.dst p) st a' w' → K a' w') : wpOp prog ops Q i K a w := by
 unfold wpOp
 rw [hi]
 simp only
 have : Region.wanted o (yielded ops a.tmps) = true := by unfold Region.wanted; rw [hg]
 rw [this]
 simp only [if_true]
 left
 obtain ⟨v, w', h1, h2, h3, h4⟩ := zqgw (P := prog) tyOK hs.good (zqd6 hs.slots) hp
 unfold Oper.wp
 rw [h1]
 exact hk _ _ ⟨hs.evo.trans h2, h3, zqlj (hs.slots.mono h2.cw) _ h4, (zqe6 _ _ _).trans hs.defers⟩
theorem step_own {ops : Array Oper} {Q : Exit → Act → World → Prop} {i : Nat} {o : Oper} {env : List PV} {st : St} {a : Act} {w : World} {K : Act → World → Prop} {t e : TypeId} {d de : TD} {len : Nat} {parts : Array (Nat × Operand)} {xs : List PV}
  (hi : ops[i]? = some o) (hg : o.guard = none) (ho : o.op = .buildSlice t len parts) (hs : Sim false w0 st0 d0 env st a w) (h1 : TT t = some d) (hsh : d.shape = .slice e) (h2 : TT e = some de) (hn : de.size ≠ 0) (hpos : 0 < len) (hlen : ¬ 16777216 < len * de.size)
  (hq : zq24 de.size len 0 [] (parts.toList.map fun x => (x.1, evO env x.2)) = some (.sl de.size true xs))
  (hk : ∀ b a' w', st b = none → Sim false w0 st0 d0 (putE env o.dst (.vsl b len len)) (upd st b (.vec de.size xs len)) a' w' → K a' w') : wpOp prog ops Q i K a w := by
 unfold wpOp
 rw [hi]
 simp only
 have : Region.wanted o (yielded ops a.tmps) = true := by unfold Region.wanted; rw [hg]
 rw [this]
 simp only [if_true]
 left
 obtain ⟨b, w', r1, r2, r3, r4⟩ := y_litOwn (P := prog) tyOK hs.good (zqd6 hs.slots) h1 hsh h2 hn hpos hlen hq
 unfold Oper.wp
 have hx : (execOp a.eval o).run prog w = .ok (.value (.slice (some ⟨b, 0, none⟩) len len)) w' := by
  unfold execOp
  rw [ho]
  simp only [Sem.run_bind]
  rw [r1]
  rfl
 rw [hx]
 refine hk b _ _ r2 ⟨hs.evo.trans r3, r4, zqlj (hs.slots.mono r3.cw) _ (.inr ⟨rfl, by simp [RX, Value.cells]⟩), (zqe6 _ _ _).trans hs.defers⟩
theorem zq9r {ops : Array Oper} {Q : Exit → Act → World → Prop} {n : Nat} {listed : Array Bool} {a : Act} {w : World} {l : List Nat} (h : Region.ready .any ops listed = l) (hl : l ≠ []) (hk : ∀ i ∈ l, wpOp prog ops Q i (wpAny prog .any ops Q n (listed.setIfInBounds i true)) a w) : wpAny prog .any ops Q (n + 1) listed a w :=
 ⟨fun e => absurd (h.symm.trans e) hl, fun i hi => hk i (h ▸ hi)⟩
theorem zqc6 {ops : Array Oper} {Q : Exit → Act → World → Prop} {i : Nat} {o : Oper} {env env' : List PV} {st : St} {a : Act} {w : World} {p : PV} {K : Act → World → Prop} (hi : ops[i]? = some o) (hg : o.guard = none) (hs : Sim false w0 st0 d0 env st a w)
  (hp : opQ TT st (evO env) o.op = some p) (he : putE env o.dst p = env') (hk : ∀ a' w', Sim false w0 st0 d0 env' st a' w' → K a' w') : wpOp prog ops Q i K a w :=
 step_q hi hg hs hp fun a' w' h => hk a' w' (he ▸ h)
noncomputable def sizeOps : Array Oper := match Go.Proofs.Tryz.f127.body with
 | some (.seq _ (.seq (.region _ ops _) _)) => ops
 | _ => #[]
def zq6x (t : Tr) (v3 v4 v8 v9 v10 : PV) : List PV := [tree t, .ref [.int .i64 t.kind, .int .i64 t.n, .str t.name, .sl 4 false (t.kids.map tree)], .int .i64 0, v3, v4, .junk, .junk, .junk, v8, v9, v10] ++ List.replicate 35 .junk
theorem szTys : ∃ d e de, TT 159 = some d ∧ d.shape = .slice e ∧ TT e = some de ∧ de.size = 1 := ⟨_, _, _, rfl, rfl, rfl, rfl⟩
theorem step_own' {Q : Exit → Act → World → Prop} {env : List PV} {st : St} {a : Act} {w : World} {K : Act → World → Prop} {x : PV} (hs : Sim false w0 st0 d0 env st a w)
  (hx : evO env (.tmp 9) = x) (h1 : x.ncells = 1) (h2 : x.cells.all PV.cellOK = true) (hk : ∀ b a' w', st b = none → Sim false w0 st0 d0 (env.set 10 (.vsl b 1 1)) (upd st b (.vec 1 [x] 1)) a' w' → K a' w') : wpOp prog sizeOps Q 2 K a w := by
 obtain ⟨d, e, de, g1, g2, g3, g4⟩ := szTys
 refine step_own (xs := [x]) (t := 159) (len := 1) (parts := #[(0, .tmp 9)]) rfl rfl rfl hs g1 g2 g3 (by rw [g4]; decide) (by decide) (by rw [g4]; decide) ?_ fun b a' w' hb h => ?_
 ·rw [g4]
  try simp [zq24, hx, h1]
  simpa using h2
 ·rw [g4] at h
  exact hk b a' w' hb h
theorem size_region (t : Tr) (st : St) {Q : Exit → Act → World → Prop} {a : Act} {w : World} (hs : Sim false w0 st0 d0 (zq6x t .junk .junk .junk .junk .junk) st a w)
  (hQ : ∀ b a w, st b = none → Sim false w0 st0 d0 (zq6x t (.int .i64 1) (.vsl b 1 1) (.ref [.sl 4 false (t.kids.map tree)]) (.sl 4 false (t.kids.map tree)) (.vsl b 1 1)) (upd st b (.vec 1 [.sl 4 false (t.kids.map tree)] 1)) a w → Q .normal a w) :
  wpAny prog .any sizeOps Q 5 #[false, false, false, false, false] a w := by
 have fin : ∀ a w b, st b = none → Sim false w0 st0 d0 (zq6x t (.int .i64 1) .junk (.ref [.sl 4 false (t.kids.map tree)]) (.sl 4 false (t.kids.map tree)) (.vsl b 1 1)) (upd st b (.vec 1 [.sl 4 false (t.kids.map tree)] 1)) a w → wpAny prog .any sizeOps Q 1 #[true, true, true, true, false] a w := fun a w b hb h => by
  refine zq9r (l := [4]) (by kernel_rfl) (by simp) fun i hi => ?_
  simp only [List.mem_singleton] at hi
  subst hi
  refine zqc6 (p := (.vsl b 1 1)) rfl rfl h (by kernel_rfl) (by kernel_rfl) fun a' w' h' => ⟨by kernel_rfl, hQ b a' w' hb h'⟩
 have s3 : ∀ a w b, st b = none → Sim false w0 st0 d0 (zq6x t .junk .junk (.ref [.sl 4 false (t.kids.map tree)]) (.sl 4 false (t.kids.map tree)) (.vsl b 1 1)) (upd st b (.vec 1 [.sl 4 false (t.kids.map tree)] 1)) a w → wpAny prog .any sizeOps Q 2 #[true, true, true, false, false] a w := fun a w b hb h => by
  refine zq9r (l := [3]) (by kernel_rfl) (by simp) fun i hi => ?_
  simp only [List.mem_singleton] at hi
  subst hi
  exact zqc6 (p := (.int .i64 1)) rfl rfl h (by kernel_rfl) (by kernel_rfl) fun a' w' h' => fin a' w' b hb h'
 have s2' : ∀ a w, Sim false w0 st0 d0 (zq6x t (.int .i64 1) .junk (.ref [.sl 4 false (t.kids.map tree)]) (.sl 4 false (t.kids.map tree)) .junk) st a w → wpAny prog .any sizeOps Q 2 #[true, true, false, true, false] a w := fun a w h => by
  refine zq9r (l := [2]) (by kernel_rfl) (by simp) fun i hi => ?_
  simp only [List.mem_singleton] at hi
  subst hi
  exact step_own' (x := .sl 4 false (t.kids.map tree)) h (by kernel_rfl) rfl rfl fun b a' w' hb h' => fin a' w' b hb h'
 have s2 : ∀ a w, Sim false w0 st0 d0 (zq6x t .junk .junk (.ref [.sl 4 false (t.kids.map tree)]) (.sl 4 false (t.kids.map tree)) .junk) st a w → wpAny prog .any sizeOps Q 3 #[true, true, false, false, false] a w := fun a w h => by
  refine zq9r (l := [2, 3]) (by kernel_rfl) (by simp) fun i hi => ?_
  simp only [List.mem_cons, List.not_mem_nil, or_false] at hi
  rcases hi with rfl | rfl
  ·exact step_own' (x := .sl 4 false (t.kids.map tree)) h (by kernel_rfl) rfl rfl fun b a' w' hb h' => s3 a' w' b hb h'
  ·exact zqc6 (p := (.int .i64 1)) rfl rfl h (by kernel_rfl) (by kernel_rfl) fun a' w' h' => s2' a' w' h'
 have s1' : ∀ a w, Sim false w0 st0 d0 (zq6x t (.int .i64 1) .junk (.ref [.sl 4 false (t.kids.map tree)]) .junk .junk) st a w → wpAny prog .any sizeOps Q 3 #[true, false, false, true, false] a w := fun a w h => by
  refine zq9r (l := [1]) (by kernel_rfl) (by simp) fun i hi => ?_
  simp only [List.mem_singleton] at hi
  subst hi
  exact zqc6 (p := (.sl 4 false (t.kids.map tree))) rfl rfl h (by kernel_rfl) (by kernel_rfl) fun a' w' h' => s2' a' w' h'
 have s1 : ∀ a w, Sim false w0 st0 d0 (zq6x t .junk .junk (.ref [.sl 4 false (t.kids.map tree)]) .junk .junk) st a w → wpAny prog .any sizeOps Q 4 #[true, false, false, false, false] a w := fun a w h => by
  refine zq9r (l := [1, 3]) (by kernel_rfl) (by simp) fun i hi => ?_
  simp only [List.mem_cons, List.not_mem_nil, or_false] at hi
  rcases hi with rfl | rfl
  ·exact zqc6 (p := (.sl 4 false (t.kids.map tree))) rfl rfl h (by kernel_rfl) (by kernel_rfl) fun a' w' h' => s2 a' w' h'
  ·exact zqc6 (p := (.int .i64 1)) rfl rfl h (by kernel_rfl) (by kernel_rfl) fun a' w' h' => s1' a' w' h'
 have s0' : ∀ a w, Sim false w0 st0 d0 (zq6x t (.int .i64 1) .junk .junk .junk .junk) st a w → wpAny prog .any sizeOps Q 4 #[false, false, false, true, false] a w := fun a w h => by
  refine zq9r (l := [0]) (by kernel_rfl) (by simp) fun i hi => ?_
  simp only [List.mem_singleton] at hi
  subst hi
  exact zqc6 (p := (.ref [.sl 4 false (t.kids.map tree)])) rfl rfl h (by kernel_rfl) (by kernel_rfl) fun a' w' h' => s1' a' w' h'
 refine zq9r (l := [0, 3]) (by kernel_rfl) (by simp) fun i hi => ?_
 simp only [List.mem_cons, List.not_mem_nil, or_false] at hi
 rcases hi with rfl | rfl
 ·exact zqc6 (p := (.ref [.sl 4 false (t.kids.map tree)])) rfl rfl hs (by kernel_rfl) (by kernel_rfl) fun a' w' h' => s1 a' w' h'
 ·exact zqc6 (p := (.int .i64 1)) rfl rfl hs (by kernel_rfl) (by kernel_rfl) fun a' w' h' => s0' a' w' h'
theorem fnSize : prog.funcs[n_impl_Size]? = some Go.Proofs.Tryz.f127 := by kernel_rfl
theorem ntSize : Go.Proofs.Tryz.f127.ntmps = 46 := by kernel_rfl
theorem zqko (t : Tr) (hsz : t.size ≤ 1000000) (st : St) : zq5 prog n_impl_Size [tree t] st (Just (.int .i64 t.size) st) := by
 refine ⟨⟨Go.Proofs.Tryz.f127, fnSize, by kernel_rfl, by kernel_rfl⟩, fun w vals hg hv => ?_⟩
 have hl := ROs.length hv
 refine calls_of_wp fnSize rfl ?_
 refine wp_seq ?_
 refine wp_mono (zq76 tyOK mixed (ann := []) (d0 := []) (w0 := w) (st0 := st) _ (tree t :: List.replicate 45 .junk) st (fun e env s => e = .normal ∧ s = st ∧ env = zq6x t .junk .junk .junk .junk .junk) _ w (by kernel_rfl) ?_ ?_) ?_
 ·generalize hQ : (fun e env s => e = HExit.normal ∧ s = st ∧ env = zq6x t .junk .junk .junk .junk .junk) = Q
  refine Eq.mp (α := zq19 st (tree t) fun v1 st => Q .normal (tree t :: v1 :: .int .i64 0 :: List.replicate 43 .junk) st) (by kernel_rfl) ?_
  refine zq9 (zqf _) ?_
  rw [← hQ]
  refine ⟨rfl, rfl, ?_⟩
  rw [zqj]
  rfl
 ·refine ⟨Evo.refl w st, hg, ?_, rfl⟩
  simp only [Array.toList_append, Array.toList_replicate, List.size_toArray, hl, ntSize]
  exact hv.append (ROs.junks 45 _ (by simp))
 intro e a1 w1 hq
 cases e with
 | normal =>
   obtain ⟨env1, st1, ⟨_, q1, q2⟩, _, hs1⟩ := hq
   rw [q1, q2] at hs1
   show Code.wp prog _ _ _ _
   refine wp_seq (wp_region_any mixed ?_)
   have hsd : Sim false w st [] (zq6x t .junk .junk .junk .junk .junk) st a1 { w1 with drawn := w1.drawn + 1 } := ⟨hs1.evo.trans (Evo.drew w1 st), hs1.good.drew, hs1.slots.mono (Evo.drew w1 st).cw, hs1.defers⟩
   refine size_region t st hsd fun b a2 w2 hb hs2 => ?_
   show Code.wp prog _ _ _ _
   refine wp_mono (zq76 tyOK mixed (ann := [(28, [4, 31]), (8, [3, 4])]) (d0 := []) (w0 := w) (st0 := st) _ (zq6x t (.int .i64 1) (.vsl b 1 1) (.ref [.sl 4 false (t.kids.map tree)]) (.sl 4 false (t.kids.map tree)) (.vsl b 1 1)) (upd st b (.vec 1 [.sl 4 false (t.kids.map tree)] 1))
    (fun e env st' => match e with
      | .normal => resK TT st' env Go.Proofs.Tryz.f127.results.toList [] (finK (Just (.int .i64 t.size) st) st')
      | .ret => resK TT st' env Go.Proofs.Tryz.f127.results.toList [] (finK (Just (.int .i64 t.size) st) st')
      | .pan p => panR (Just (.int .i64 t.size) st) p st'
      | _ => False) _ w2 (by kernel_rfl) ?_ hs2) ?_
   ·refine Eq.mp (α := hFix (sizeBody (Just (.int .i64 t.size) st)) [.int .i64 1, .vsl b 1 1] (upd st b (.vec 1 [.sl 4 false (t.kids.map tree)] 1))) (by kernel_rfl) ?_
    refine size_loop t.size hsz st _ b 1 1 [t.kids] 1 (by omega) ?_ ?_ ⟨⟨_, zq2 _ _ _, by simp, rfl⟩, rfl, by omega, hb, (Sub.refl st).put hb⟩
    ·simp [zqle]
     have := Tr.size_kids t
     omega
    ·simp [todoS]
     have := Tr.size_kids t
     omega
   ·intro e a w' hq
    cases e with
    | normal => obtain ⟨e1, s1, h1, _, h3⟩ := hq; exact ⟨h3.defers, zqm6 tyOK h3.evo h3.good h3.slots h1⟩
    | ret => obtain ⟨e1, s1, h1, _, h3⟩ := hq; exact ⟨h3.defers, zqm6 tyOK h3.evo h3.good h3.slots h1⟩
    | panic ch =>
      obtain ⟨e1, s1, p, v, h1, rfl, he, hg', hro, hdf⟩ := hq
      obtain ⟨p', st'', hcv, _, hr⟩ := h1
      cases hr
    | exit id => obtain ⟨_, _, h1, _⟩ := hq; exact h1.elim
    | goto l => obtain ⟨_, _, h1, _⟩ := hq; exact h1.elim
    | outgrown => exact hq.elim
 | panic ch => obtain ⟨_, _, _, _, ⟨h, _⟩, _⟩ := hq; cases h
 | outgrown => exact hq.elim
 | _ => obtain ⟨_, _, ⟨h, _⟩, _⟩ := hq; cases h
end Go.H.Tryz
set_option linter.unusedVariables false
set_option linter.unusedSimpArgs false
namespace Go.H.Tryz
open Go Go.H

def HeadP (h : TypeId) (x : Int ⊕ Tr) (p : Int) (st : St) : Res → St → Prop := fun r st' => st' = st ∧ match x with | .inr b => r = .ret (tree b) | .inl c => r = .pan (halt h c p)
theorem HeadP.ret {h : TypeId} {x : Int ⊕ Tr} {p : Int} {b : Tr} {st st1 : St} (e : x = .inr b) (hs : Sub st st1) : retR (HeadP h x p st) (tree b) st1 := zq1h hs ⟨rfl, by rw [e]⟩
theorem HeadP.pan {h : TypeId} {x : Int ⊕ Tr} {p c : Int} {st st1 : St} (e : x = .inl c) (hs : Sub st st1) : panR (HeadP h x p st) (halt h c p) st1 := zq56 (Conv.sub hs) ⟨rfl, by rw [e]⟩
theorem zql3 {P : Program} {g : FuncId} {us : List PV} {st : St} {K Kp : PV → St → Prop} {h : TypeId} {x : Int ⊕ Tr} {p : Int} (hc : zq5 P g us st (HeadP h x p st)) (hy : ∀ b, x = .inr b → K (tree b) st) (hn : ∀ c, x = .inl c → Kp (halt h c p) st) : zqb P g us st K Kp := by
 refine zq15 hc (fun q st' h => ?_) (fun q st' h => ?_)
 ·obtain ⟨rfl, h⟩ := h
  cases x with
  | inr b => cases h; exact hy b rfl
  | inl c => cases h
 ·obtain ⟨rfl, h⟩ := h
  cases x with
  | inr b => cases h
  | inl c => cases h; exact hn c rfl
theorem zq66 (b : Nat) (sig : List Dc) (hs : SigR sig) (ctx : List Tr) (hctx : ∀ a ∈ ctx, FF a) (hlen : ctx.length ≤ 1000000) (t : Tr) (ht : t.isTerm false = true) (hk4 : t.kind ≠ 4) (p k : Int) (st : St) (hb : st b = some (ckr sig k)) :
  zq5 prog n_impl_checker_head [.ptr b 0, trees ctx, tree t, .int .i64 p] st (HeadP ty_impl_halt (headC sig ctx t) p st) := by
 apply zqdk
 unfold zq6i
 generalize hv : headC sig ctx t = v
 unfold headC at hv
 refine zq9 (zqf _) ?_
 intro b8 hb8
 have n8 : b ≠ b8 := fun e => by rw [← e, hb] at hb8; cases hb8
 have hsub : ∀ o, Sub st (upd st b8 o) := fun o => (Sub.refl _).put hb8
 try simp
 refine zql (fun h5 => ?_) (fun h5 => ?_)
 ·have hn := var_n ht (.inl h5)
  rw [if_pos h5] at hv
  refine zq52 fun J hJ => ?_
  refine zql (fun hge => ?_) (fun hge => ?_)
  ·rw [if_pos (by omega)] at hv
   refine zqy (zqw 7 p (by omega) _) (fun h => by omega) (fun _ => HeadP.pan hv.symm (hsub _))
  ·rw [if_neg (by omega)] at hv
   refine hJ _ _ ?_
   have hi : ((ctx.length : Int) - 1 - t.n).toNat < ctx.length := by omega
   rw [getD_of hi] at hv
   have hff := hctx _ (List.getElem_mem hi)
   have e1 : IntKind.i64.wrap (IntKind.i64.wrap ((ctx.length : Int) - 1) - t.n) = ((((ctx.length : Int) - 1 - t.n).toNat : Nat) : Int) := by
    rw [zqs (n := (ctx.length : Int) - 1) (by omega) (by omega), zqs (by omega) (by omega)]
    omega
   have e2 : IntKind.i64.wrap (t.n + 1) = t.n + 1 := zqs (by omega) (by omega)
   refine zq52 fun J2 hJ2 => ?_
   have key : ∀ (b9 : Nat) (s : St), s b9 = some (.cells (tree (ctx[((ctx.length : Int) - 1 - t.n).toNat].lift 0 (t.n + 1))).cells) → Sub st s → (∃ o, s b8 = some (.cells [o, .int .i64 0, .str [], .sl 0 true []])) → b8 ≠ b9 → J2 [.ptr b9 0] s := by
    intro b9 s h9 hss ⟨o8, h8⟩ hne
    refine hJ2 _ _ ?_
    try simp [zq6 h9]
    refine zq1 (zq63 _ (by rw [zqlp]; have := hff.2; omega) _) ?_
    try simp
    refine zq50 (fun hbig => ?_) (fun hbig => ?_)
    ·rw [if_pos hbig] at hv
     refine zqy (zqw 11 p (by omega) _) (fun h => by omega) (fun _ => HeadP.pan hv.symm hss)
    ·rw [if_neg (by rw [hbig]; simp)] at hv
     try simp [zq6 h9]
     rw [zqh _ _ _ _ _ _ _ h8]
     try simp [zq6 (zq2 _ _ _)]
     exact HeadP.ret hv.symm (hss.put hb8)
   rw [e1, e2, ia_trees hi]
   try simp
   refine ⟨?_, ?_⟩
   ·refine zq1 (zq9x _ 0 _ (by decide) (by have := hff.2; omega) _) ?_
    intro b9 hb9
    try simp
    have hne : b8 ≠ b9 := fun e => by rw [← e, zq2] at hb9; cases hb9
    rw [zq7 _ _ hne.symm] at hb9
    refine key b9 _ (zq2 _ _ _) (((Sub.refl st).put hb8).put hb9) ⟨.int .i64 0, ?_⟩ hne
    rw [zq7 _ _ hne, zq2]
   ·intro b9 hb9
    have hne : b8 ≠ b9 := fun e => by rw [← e, zq2] at hb9; cases hb9
    rw [zq7 _ _ hne.symm] at hb9
    refine zq1 (zq9x _ 0 _ (by decide) (by have := hff.2; omega) _) ?_
    try simp
    refine key b9 _ (zq2 _ _ _) (((Sub.refl st).put hb8).put hb9) ⟨.int .i64 0, ?_⟩ hne
    rw [zq7 _ _ hne, zq2]
 ·rw [if_neg h5] at hv
  refine zql (fun h6 => ?_) (fun h6 => ?_)
  ·rw [if_pos h6] at hv
   have hb' : ∀ o, (upd st b8 o) b = some (ckr sig k) := fun o => by rw [zq7 _ _ n8]; exact hb
   refine zq1 (zq47 b sig hs t.name false k _ (hb' _)) ?_
   match hd : zq2p sig t.name false with
   | none =>
     rw [hd] at hv
     try simp [declP]
     intro b10 hb10
     try simp
     have hne : b8 ≠ b10 := fun e => by rw [← e, zq2] at hb10; cases hb10
     rw [zq7 _ _ hne.symm] at hb10
     exact zqy (zqw 5 p (by omega) _) (fun h => by omega) (fun _ => HeadP.pan hv.symm (((Sub.refl st).put hb8).put hb10))
   | some a =>
     rw [hd] at hv
     try simp [declP]
     intro b10 hb10
     have hne : b8 ≠ b10 := fun e => by rw [← e, zq2] at hb10; cases hb10
     rw [zq7 _ _ hne.symm] at hb10
     try simp [zq6 (zq2 _ _ _)]
     have i8 : ∀ x y, (upd (upd st b8 (.cells x)) b10 y) b8 = some (.cells x) := fun x y => by rw [zq7 _ _ hne]; exact zq2 _ _ _
     rw [zqh _ _ _ _ _ _ _ (i8 _ _)]
     try simp [zq6 (zq2 _ _ _)]
     exact HeadP.ret hv.symm ((((Sub.refl st).put hb8).put hb10).put hb8)
  ·rw [if_neg h6] at hv
   exact zqy (zqw 15 p (by omega) _) (fun h => by omega) (fun _ => HeadP.pan hv.symm (hsub _))
def TermOKc (b : Nat) (sig : List Dc) (ctx : List Tr) (f : Tr → Tr → Int → Int → (Fz ⊕ Unit) × Int) (l : List Tr) : Prop := ∀ x ∈ l, ∀ (c : Tr) (p k : Int) (s : St), FF c → 0 ≤ p → p + x.size ≤ 1000000000 → 0 ≤ k → k ≤ 20000 → s b = some (ckr sig k) →
 zq5 prog n_impl_checker_term [.ptr b 0, trees ctx, tree x, tree c, .int .i64 p] s (zq8a ty_impl_halt b (ckr sig) unitP (f x c p k) s) ∧ CntOK (f x c p k) k
theorem zq67 (b : Nat) (sig : List Dc) (ctx : List Tr) (f : Tr → Tr → Int → Int → (Fz ⊕ Unit) × Int) (l : List Tr) (hf : TermOKc b sig ctx f l) (hl : ∀ x ∈ l, x.isTerm false = true) (hls : Tr.sizes l ≤ 900000) (a : Tr) (ha : FK a) (p k : Int) (hp : 0 ≤ p) (hps : p + Tr.sizes l ≤ 1000000000) (h0 : 0 ≤ k) (h1 : k ≤ 20000) (st : St) (hb : st b = some (ckr sig k)) :
  zq5 prog n_impl_checker_args [.ptr b 0, trees ctx, trees l, tree a, .int .i64 p] st (zq8a ty_impl_halt b (ckr sig) tree (zqh0 f l a p k) st) := by
 apply zqdl
 unfold zq6j
 generalize hv : zqh0 f l a p k = v
 have hll := Tr.len_sizes l
 refine zq2a (zqf _) fun b8 hb8 => ?_
 have n8 : b ≠ b8 := fun e => by rw [← e, hb] at hb8; cases hb8
 intro b10 hb10
 have n108 : b10 ≠ b8 := fun e => by rw [e, zq2] at hb10; cases hb10
 rw [zq7 _ _ n108] at hb10
 have n10 : b ≠ b10 := fun e => by rw [← e, hb] at hb10; cases hb10
 try simp
 generalize hs1 : upd (upd st b8 (.cells (tree a).cells)) b10 (.cells [.int .i64 0, .int .i64 0, .str [], .sl 0 true []]) = s1
 have eb : s1 b = some (ckr sig k) := by rw [← hs1, zq7 _ _ n10, zq7 _ _ n8]; exact hb
 have e8 : s1 b8 = some (.cells (tree a).cells) := by rw [← hs1, zq7 _ _ n108.symm]; exact zq2 _ _ _
 have e10 : s1 b10 = some (.cells [.int .i64 0, .int .i64 0, .str [], .sl 0 true []]) := by rw [← hs1]; exact zq2 _ _ _
 have ar : zq16 b st s1 := by rw [← hs1]; exact ((zq16.refl b st).put hb8 _).put hb10 _
 clear hs1
 refine zqz (β := Tr × Int × Int × St) l (fun z i => [.int .i64 z.2.1, .int .i64 (i : Int)]) (fun z => z.2.2.2)
  (fun z i rest => z.2.2.2 b = some (ckr sig z.2.2.1) ∧ z.2.2.2 b8 = some (.cells (tree z.1).cells) ∧ z.2.2.2 b10 = some (.cells [.int .i64 0, .int .i64 0, .str [], .sl 0 true []]) ∧ zq16 b st z.2.2.2 ∧ FK z.1 ∧ 0 ≤ z.2.1 ∧ z.2.1 + Tr.sizes rest ≤ 1000000000 ∧ 0 ≤ z.2.2.1 ∧ z.2.2.1 ≤ 20000 ∧ zqh0 f rest z.1 z.2.1 z.2.2.1 = v) ?_ ?_ (a, p, k, s1) ⟨eb, e8, e10, ar, ha, hp, hps, h0, h1, hv⟩
 ·rintro i x rest ⟨a, p, k, s⟩ hi hx ⟨eb, e8, e10, ar, ha, hp, hps, h0, h1, hq⟩ kk
  simp only at eb e8 e10 ar ha hp hps h0 h1 hq
  rw [zqh0] at hq
  have hxm := List.mem_of_getElem? hx
  have hxs := Tr.sizes_mem hxm
  simp only [Tr.sizes, List.map_cons, List.sum_cons] at hps
  try simp [hi, zq4r _ hx]
  intro b12 hb12
  have m : b ≠ b12 := fun e => by rw [← e, eb] at hb12; cases hb12
  have m8 : b8 ≠ b12 := fun e => by rw [← e, e8] at hb12; cases hb12
  have m10 : b10 ≠ b12 := fun e => by rw [← e, e10] at hb12; cases hb12
  have hn12 := ar.isNone m.symm hb12
  try simp
  generalize hs2 : upd s b12 (.cells (tree x).cells) = s2
  have fb : s2 b = some (ckr sig k) := by rw [← hs2, zq7 _ _ m]; exact eb
  have f8 : s2 b8 = some (.cells (tree a).cells) := by rw [← hs2, zq7 _ _ m8]; exact e8
  have f10 : s2 b10 = some (.cells [.int .i64 0, .int .i64 0, .str [], .sl 0 true []]) := by rw [← hs2, zq7 _ _ m10]; exact e10
  have f12 : s2 b12 = some (.cells (tree x).cells) := by rw [← hs2]; exact zq2 _ _ _
  have ar2 : zq16 b st s2 := by rw [← hs2]; exact ar.put hn12 _
  clear hs2
  try simp [zq6 f8]
  refine zq52 fun J hJ => ?_
  refine zql (fun hk => ?_) (fun hk => ?_)
  rotate_left
  ·rw [if_neg hk] at hq
   exact zqy (zqw 8 p (by omega) _) (fun h => by omega) (fun _ => zq8a.pan hq.symm ar2 fb)
  ·rw [if_pos hk] at hq
   refine hJ _ _ ?_
   obtain ⟨y, z, hyz, hy, hz, hsz⟩ := fk_pi ha hk
   have y0 : a.kids[0]? = some y := by rw [hyz]; rfl
   rw [kid0 hyz] at hq
   try simp [zq6 f12, zq6 f8, zq6l _ y0]
   obtain ⟨hc, hfine⟩ := hf x hxm y p k s2 hy hp (by omega) h0 h1 fb
   refine zq21 hc (fun u k2 hr => ?_) (fun c p2 k2 hr => ?_)
   ·rw [hr] at hq hfine
    simp only at hq
    have hk0 := hfine.1
    have hk2 := hfine.2.2.2 u rfl
    simp only at hk0 hk2
    have gb : (upd s2 b (ckr sig k2)) b = some (ckr sig k2) := zq2 _ _ _
    have g8 : (upd s2 b (ckr sig k2)) b8 = some (.cells (tree a).cells) := by rw [zq7 _ _ n8.symm]; exact f8
    have g12 : (upd s2 b (ckr sig k2)) b12 = some (.cells (tree x).cells) := by rw [zq7 _ _ m.symm]; exact f12
    have g10 : (upd s2 b (ckr sig k2)) b10 = some (.cells [.int .i64 0, .int .i64 0, .str [], .sl 0 true []]) := by rw [zq7 _ _ n10.symm]; exact f10
    have ar3 : zq16 b st (upd s2 b (ckr sig k2)) := ar2.draw _
    generalize upd s2 b (ckr sig k2) = s3 at gb g8 g12 g10 ar3
    try simp [zq6 g12, zq6 g8]
    refine zq21 (zqcy b sig x a p k2 ha hk (hl x hxm) (by omega) (by omega) hk2 s3 gb) (fun r k3 hr3 => ?_) (fun c p2 k3 hr3 => ?_)
    ·obtain ⟨hl1, hl2⟩ := leftC_fine (p := p) (hl x hxm) (by omega) ha hk (show 0 ≤ k2 by omega) hk2
     rw [hr3] at hq hl1 hl2
     simp only at hq
     have hk3 := hl1.1
     have hk4 := hl1.2.2.2 r rfl
     simp only at hk3 hk4
     have i8 : (upd s3 b (ckr sig k3)) b8 = some (.cells (tree a).cells) := by rw [zq7 _ _ n8.symm]; exact g8
     rw [zqh _ _ _ _ _ _ _ i8]
     try simp
     have j12 : (upd (upd s3 b (ckr sig k3)) b8 (.cells (tree r).cells)) b12 = some (.cells (tree x).cells) := by rw [zq7 _ _ m8.symm, zq7 _ _ m.symm]; exact g12
     have jb : (upd (upd s3 b (ckr sig k3)) b8 (.cells (tree r).cells)) b = some (ckr sig k3) := by rw [zq7 _ _ n8]; exact zq2 _ _ _
     have j10 : (upd (upd s3 b (ckr sig k3)) b8 (.cells (tree r).cells)) b10 = some (.cells [.int .i64 0, .int .i64 0, .str [], .sl 0 true []]) := by rw [zq7 _ _ n108, zq7 _ _ n10.symm]; exact g10
     try simp [zq6 j12]
     refine zq1 (zqko x (by omega) _) ?_
     try simp
     rw [zqs (by omega) (by omega), W_idx hi (by unfold maxLen; omega)]
     refine kk (r, p + x.size, k3, _) ⟨jb, zq2 _ _ _, j10, (ar3.draw _).put hb8 _, (hl2 r rfl).1, (by simp only; omega), (by simp only [Tr.sizes]; omega), (by simp only; omega), hk4, hq⟩
    ·rw [hr3] at hq
     exact zq8a.pan hq.symm (ar3.draw _) (zq2 _ _ _)
   ·rw [hr] at hq
    exact zq8a.pan hq.symm (ar2.draw _) (zq2 _ _ _)
 ·rintro ⟨a, p, k, s⟩ ⟨eb, e8, e10, ar, ha, hp, hps, h0, h1, hq⟩
  simp only at eb e8 e10 ar ha hp hps h0 h1 hq
  rw [zqh0] at hq
  try simp [zq6 e8]
  rw [zqh _ _ _ _ _ _ _ e10]
  try simp [zq6 (zq2 _ _ _)]
  exact zq8a.ret rfl hq.symm (ar.put hb10 _) (by rw [zq7 _ _ n10]; exact eb)
theorem zqbn (b : Nat) (sig : List Dc) (hs : SigR sig) (ctx : List Tr) (hctx : ∀ a ∈ ctx, FF a) (hlen : ctx.length ≤ 1000000) (f : Tr → Tr → Int → Int → (Fz ⊕ Unit) × Int) (t : Tr) (hf : TermOKc b sig ctx f t.kids) (ht : t.isTerm false = true) (hk4 : t.kind ≠ 4) (hts : t.size ≤ 900000) (p k : Int) (hp : 0 ≤ p) (hps : p + t.size ≤ 1000000000) (h0 : 0 ≤ k) (h1 : k ≤ 20000) (st : St) (hb : st b = some (ckr sig k)) :
  zq5 prog n_impl_checker_found [.ptr b 0, trees ctx, tree t, .int .i64 p] st (zq8a ty_impl_halt b (ckr sig) tree (zq97 f sig ctx t p k) st) := by
 apply zqbz
 unfold zq5w
 generalize hv : zq97 f sig ctx t p k = v
 unfold zq97 at hv
 have hkids : Tr.sizes t.kids + 1 = t.size := by rw [Tr.size_kids t]; omega
 refine zq9 (zqf _) ?_
 intro b8 hb8
 have n8 : b ≠ b8 := fun e => by rw [← e, hb] at hb8; cases hb8
 generalize hs1 : upd st b8 (.cells [.int .i64 0, .int .i64 0, .str [], .sl 0 true []]) = s1
 have eb : s1 b = some (ckr sig k) := by rw [← hs1, zq7 _ _ n8]; exact hb
 have e8 : s1 b8 = some (.cells [.int .i64 0, .int .i64 0, .str [], .sl 0 true []]) := by rw [← hs1]; exact zq2 _ _ _
 have ar : zq16 b st s1 := by rw [← hs1]; exact (zq16.refl b st).put hb8 _
 clear hs1
 have hw : IntKind.i64.wrap (p + 1) = p + 1 := zqs (by omega) (by omega)
 refine zq52 fun J hJ => ?_
 have key : ∀ (b9 : Nat) (r : Tr) (k2 : Int) (s : St), s b9 = some (.cells (tree r).cells) → s b8 = some (.cells [.int .i64 0, .int .i64 0, .str [], .sl 0 true []]) → s b = some (ckr sig k2) → zq16 b st s → (if r.kind = 3 then ((.inr r, k2) : (Fz ⊕ Tr) × Int) else (.inl (8, p), k2)) = v → J [.ptr b9 0] s := by
  intro b9 r k2 s h9 h8 hb2 har hq
  refine hJ _ _ ?_
  try simp [zq6 h9]
  refine zql (fun h3 => ?_) (fun h3 => ?_)
  ·rw [if_pos h3] at hq
   rw [zqh _ _ _ _ _ _ _ h8]
   try simp [zq6 (zq2 _ _ _)]
   exact zq8a.ret rfl hq.symm (har.put hb8 _) (by rw [zq7 _ _ n8]; exact hb2)
  ·rw [if_neg h3] at hq
   exact zqy (zqw 8 p (by omega) _) (fun h => by omega) (fun _ => zq8a.pan hq.symm har hb2)
 have args : ∀ (a : Tr), FK a → ∀ (s : St), s b = some (ckr sig k) → zq5 prog n_impl_checker_args [.ptr b 0, trees ctx, trees t.kids, tree a, .int .i64 (p + 1)] s (zq8a ty_impl_halt b (ckr sig) tree (zqh0 f t.kids a (p + 1) k) s) := fun a ha s hbs =>
  zq67 b sig ctx f t.kids hf (fun x hx => Tr.kids_lams ht hx) (by omega) a ha (p + 1) k (by omega) (by omega) h0 h1 s hbs
 try simp
 rw [hw]
 have fresh : ∀ {b9 : Nat} {s : St} {o : HObj}, s b9 = none → s b8 = some o → b8 ≠ b9 := fun {b9 s o} h9 h8 e => by rw [← e, h8] at h9; cases h9
 refine ⟨?_, ?_⟩
 ·refine zql3 (zq66 b sig hs ctx hctx hlen t ht hk4 p k _ eb) (fun a ha => ?_) (fun c hc => by rw [hc] at hv; exact zq8a.pan hv.symm ar eb)
  rw [ha] at hv
  simp only at hv
  have haf := headC_ok hs hctx ht ha
  refine ⟨?_, ?_⟩
  ·refine zq21 (args a haf.fk _ eb) (fun r k2 hr => ?_) (fun c p2 k2 hr => by rw [hr] at hv; exact zq8a.pan hv.symm (ar.draw _) (zq2 _ _ _))
   rw [hr] at hv
   simp only at hv
   have g8 : (upd s1 b (ckr sig k2)) b8 = some (.cells [.int .i64 0, .int .i64 0, .str [], .sl 0 true []]) := by rw [zq7 _ _ n8.symm]; exact e8
   intro b9 hb9
   have m8 := fresh hb9 g8
   have m : b ≠ b9 := fun e => by rw [← e, zq2] at hb9; cases hb9
   try simp
   exact key b9 r k2 _ (zq2 _ _ _) (by rw [zq7 _ _ m8]; exact g8) (by rw [zq7 _ _ m]; exact zq2 _ _ _) ((ar.draw _).put ((ar.draw _).isNone m.symm hb9) _) hv
  ·intro b9 hb9
   have m8 := fresh hb9 e8
   have m : b ≠ b9 := fun e => by rw [← e, eb] at hb9; cases hb9
   have hn9 := ar.isNone m.symm hb9
   refine zq21 (args a haf.fk _ (by rw [zq7 _ _ m]; exact eb)) (fun r k2 hr => ?_) (fun c p2 k2 hr => by rw [hr] at hv; exact zq8a.pan hv.symm ((ar.put hn9 _).draw _) (zq2 _ _ _))
   rw [hr] at hv
   simp only at hv
   have g9 : ∀ o, (upd (upd s1 b9 (.cells o)) b (ckr sig k2)) b9 = some (.cells o) := fun o => by rw [zq7 _ _ m.symm]; exact zq2 _ _ _
   rw [zqh _ _ _ _ _ _ _ (g9 _)]
   try simp
   exact key b9 r k2 _ (zq2 _ _ _) (by rw [zq7 _ _ m8, zq7 _ _ n8.symm, zq7 _ _ m8]; exact e8) (by rw [zq7 _ _ m]; exact zq2 _ _ _) (((ar.put hn9 _).draw _).put hn9 _) hv
 ·intro b9 hb9
  have m8 := fresh hb9 e8
  have m : b ≠ b9 := fun e => by rw [← e, eb] at hb9; cases hb9
  have hn9 := ar.isNone m.symm hb9
  have fb : ∀ o, (upd s1 b9 o) b = some (ckr sig k) := fun o => by rw [zq7 _ _ m]; exact eb
  refine zql3 (zq66 b sig hs ctx hctx hlen t ht hk4 p k _ (fb _)) (fun a ha => ?_) (fun c hc => by rw [hc] at hv; exact zq8a.pan hv.symm (ar.put hn9 _) (fb _))
  rw [ha] at hv
  simp only at hv
  have haf := headC_ok hs hctx ht ha
  refine zq21 (args a haf.fk _ (fb _)) (fun r k2 hr => ?_) (fun c p2 k2 hr => by rw [hr] at hv; exact zq8a.pan hv.symm ((ar.put hn9 _).draw _) (zq2 _ _ _))
  rw [hr] at hv
  simp only at hv
  have g9 : ∀ o, (upd (upd s1 b9 (.cells o)) b (ckr sig k2)) b9 = some (.cells o) := fun o => by rw [zq7 _ _ m.symm]; exact zq2 _ _ _
  rw [zqh _ _ _ _ _ _ _ (g9 _)]
  try simp
  exact key b9 r k2 _ (zq2 _ _ _) (by rw [zq7 _ _ m8, zq7 _ _ n8.symm, zq7 _ _ m8]; exact e8) (by rw [zq7 _ _ m]; exact zq2 _ _ _) (((ar.put hn9 _).draw _).put hn9 _) hv
theorem ctx_snoc {ctx : List Tr} {y : Tr} (hctx : ∀ a ∈ ctx, FF a) (hy : FF y) : ∀ a ∈ ctx ++ [y], FF a := fun b hb => by
 rcases List.mem_append.1 hb with h | h
 ·exact hctx b h
 ·simp at h; rw [h]; exact hy
theorem zq2o (b : Nat) (sig : List Dc) (hs : SigR sig) : ∀ (m : Nat) (ctx : List Tr) (t a : Tr) (p k : Int), ctx.length + m ≤ 1000000 → (∀ a ∈ ctx, FF a) → t.isTerm false = true → t.size ≤ 900000 → t.size ≤ m → FF a → 0 ≤ p → p + t.size ≤ 1000000000 → 0 ≤ k → k ≤ 20000 → ∀ st : St, st b = some (ckr sig k) →
  zq5 prog n_impl_checker_term [.ptr b 0, trees ctx, tree t, tree a, .int .i64 p] st (zq8a ty_impl_halt b (ckr sig) unitP (zqab sig m ctx t a p k) st)
 | 0, ctx, t, a, p, k, _, _, _, _, hsz, _, _, _, _, _, st, _ => by have := t.size_pos; omega
 | m + 1, ctx, t, a, p, k, hlen, hctx, ht, hts, hsz, ha, hp, hps, h0, h1, st, hb => by
   apply zqdi
   unfold zq6g
   generalize hv : zqab sig (m + 1) ctx t a p k = v
   rw [zqab] at hv
   refine zq9 (zqf _) ?_
   refine zq9 (zqf _) ?_
   try simp
   refine zq52 fun J hJ => ?_
   refine zq50 (fun hd => ?_) (fun hd => ?_)
   ·have e9 : (.inl (9, p), k) = v := by rw [← hv]; by_cases h4 : t.kind = 4 <;> by_cases h2 : a.kind = 2 <;> simp_all
    exact zqy (zqw 9 p (by omega) _) (fun h => by omega) (fun _ => zq8a.pan e9.symm (zq16.refl b st) hb)
   ·refine hJ _ _ ?_
    refine zql (fun h4 => ?_) (fun h4 => ?_)
    ·have h2 : a.kind = 2 := by simpa [h4] using hd
     rw [if_pos h4, if_pos h2] at hv
     obtain ⟨x, hx, hxt⟩ := lam_kid ht h4
     obtain ⟨y, z, hyz, hy, hz, hyzs⟩ := ff_pi ha h2
     rw [kid0 hx, kid0 hyz, kid1 hyz] at hv
     have hxs : x.size < t.size := Tr.kid_size (by rw [hx]; simp)
     have x0 : t.kids[0]? = some x := by rw [hx]; rfl
     have y0 : a.kids[0]? = some y := by rw [hyz]; rfl
     have y1 : a.kids[1]? = some z := by rw [hyz]; rfl
     try simp [zq6l _ x0, zq6l _ y0, zqea _ y1]
     refine zq1 (zqfk ctx y (by omega) _) ?_
     try simp
     rw [zqs (by omega) (by omega)]
     refine zq21 (by simpa using zq2o b sig hs m (ctx ++ [y]) x z (p + 1) k (by simp; omega) (ctx_snoc hctx hy) hxt (by omega) (by omega) hz (by omega) (by omega) h0 h1 st hb) (fun u k2 hr => ?_) (fun c p2 k2 hr => ?_)
     ·exact zq8a.ret rfl (by rw [← hv, hr]) ((zq16.refl b st).draw _) (zq2 _ _ _)
     ·exact zq8a.pan (by rw [← hv, hr]) ((zq16.refl b st).draw _) (zq2 _ _ _)
    ·have h2 : a.kind ≠ 2 := by simpa [h4] using hd
     rw [if_neg h4, if_neg h2] at hv
     have hfT : TermOKc b sig ctx (zqab sig m ctx) t.kids := fun x hx c p k s hc q0 q1 q2 q3 q4 => ⟨zq2o b sig hs m ctx x c p k (by omega) hctx (Tr.kids_lams ht hx) (by have := Tr.kid_size hx; omega) (by have := Tr.kid_size hx; omega) hc q0 q1 q2 q3 s q4, zq6v hs m ctx x c p k hctx (Tr.kids_lams ht hx) (by have := Tr.kid_size hx; omega) hc q2 q3⟩
     refine zq21 (zqbn b sig hs ctx hctx (by omega) (zqab sig m ctx) t hfT ht h4 hts p k hp hps h0 h1 st hb) (fun r k2 hr => ?_) (fun c p2 k2 hr => ?_)
     ·rw [hr] at hv
      simp only at hv
      try simp
      refine zq1 (h_impl_same _ _ _) ?_
      try simp
      refine zql (fun k => ?_) (fun k => ?_)
      ·rw [if_pos k] at hv
       exact zq8a.ret rfl hv.symm ((zq16.refl b st).draw _) (zq2 _ _ _)
      ·rw [if_neg k] at hv
       exact zqy (zqw 10 p (by omega) _) (fun h => by omega) (fun _ => zq8a.pan hv.symm ((zq16.refl b st).draw _) (zq2 _ _ _))
     ·rw [hr] at hv
      exact zq8a.pan hv.symm ((zq16.refl b st).draw _) (zq2 _ _ _)
theorem zq36 (b : Nat) (sig : List Dc) (hs : SigR sig) : ∀ (m : Nat) (ctx : List Tr) (a : Tr) (p k : Int), ctx.length + m ≤ 1000000 → (∀ a ∈ ctx, FF a) → FK a → a.size ≤ m → 0 ≤ p → p + a.size ≤ 1000000000 → 0 ≤ k → k ≤ 20000 → ∀ st : St, st b = some (ckr sig k) →
  zq5 prog n_impl_checker_family [.ptr b 0, trees ctx, tree a, .int .i64 p] st (zq8a ty_impl_halt b (ckr sig) unitP (famC sig m ctx a p k) st)
 | 0, ctx, a, p, k, _, _, _, hsz, _, _, _, _, st, _ => by have := a.size_pos; omega
 | m + 1, ctx, a, p, k, hlen, hctx, ha, hsz, hp, hps, h0, h1, st, hb => by
   apply zqa9
   unfold zq54
   generalize hv : famC sig (m + 1) ctx a p k = v
   rw [famC] at hv
   refine zq9 (zqf _) ?_
   try simp
   refine zql (fun h2 => ?_) (fun h2 => ?_)
   ·rw [if_pos h2] at hv
    obtain ⟨x, y, hxy, hx, hy, hxys⟩ := fk_pi ha h2
    rw [kid0 hxy, kid1 hxy] at hv
    have hxs : a.size = 1 + (x.size + y.size) := by rw [Tr.size_kids, hxy]; simp [Tr.sizes]
    have x0 : a.kids[0]? = some x := by rw [hxy]; rfl
    have y1 : a.kids[1]? = some y := by rw [hxy]; rfl
    try simp [zq6l _ x0, zqea _ y1]
    rw [zqs (by omega) (by omega)]
    have hfine := zqgz hs m ctx x (p + 1) k hctx hx.fk h0 h1
    refine zq21 (zq36 b sig hs m ctx x (p + 1) k (by omega) hctx hx.fk (by omega) (by omega) (by omega) h0 h1 st hb) (fun u k2 hr => ?_) (fun c p2 k2 hr => ?_)
    ·rw [hr] at hv hfine
     simp only at hv
     have g1 := hfine.1
     have g2 := hfine.2.2.2 u rfl
     simp only at g1 g2
     refine zq1 (zqfk ctx x (by omega) _) ?_
     try simp
     refine zq1 (zqko x (by have := hx.2; omega) _) ?_
     try simp
     rw [zqs (by omega) (by omega)]
     refine zq21 (by simpa using zq36 b sig hs m (ctx ++ [x]) y (p + 1 + x.size) k2 (by simp; omega) (ctx_snoc hctx hx) hy (by omega) (by omega) (by omega) (by omega) g2 _ (zq2 st b (ckr sig k2))) (fun u k3 hr3 => ?_) (fun c p2 k3 hr3 => ?_)
     ·exact zq8a.ret rfl (by rw [← hv, hr3]) (((zq16.refl b st).draw _).draw _) (zq2 _ _ _)
     ·exact zq8a.pan (by rw [← hv, hr3]) (((zq16.refl b st).draw _).draw _) (zq2 _ _ _)
    ·rw [hr] at hv
     exact zq8a.pan hv.symm ((zq16.refl b st).draw _) (zq2 _ _ _)
   ·rw [if_neg h2] at hv
    refine zql (fun h3 => ?_) (fun h3 => ?_)
    ·rw [if_pos h3] at hv
     refine zq1 (zq47 b sig hs a.name true k _ hb) ?_
     match hd : zq2p sig a.name true with
     | none =>
       rw [hd] at hv
       try simp [declP]
       intro b8 hb8
       have n8 : b ≠ b8 := fun e => by rw [← e, hb] at hb8; cases hb8
       try simp
       refine zq52 fun J hJ => ?_
       exact zqy (zqw 5 p (by omega) _) (fun h => by omega) (fun _ => zq8a.pan hv.symm ((zq16.refl b st).put hb8 _) (by rw [zq7 _ _ n8]; exact hb))
     | some kt =>
       rw [hd] at hv
       simp only at hv
       have hkt := zqbq hs hd
       have hktk : FK kt := ⟨⟨true, hkt.1⟩, hkt.2⟩
       try simp [declP]
       intro b8 hb8
       have n8 : b ≠ b8 := fun e => by rw [← e, hb] at hb8; cases hb8
       try simp
       refine zq52 fun J hJ => ?_
       refine hJ _ _ ?_
       try simp [zq6 (zq2 _ _ _)]
       rw [zqs (by omega) (by omega)]
       obtain ⟨⟨kd, hkd⟩, hasz⟩ := ha
       have hall := fam_args hkd h3
       have hkids : Tr.sizes a.kids + 1 = a.size := by rw [Tr.size_kids a]; omega
       have hfT : TermOKc b sig ctx (zqab sig m ctx) a.kids := fun x hx c p k s hc q0 q1 q2 q3 q4 => ⟨zq2o b sig hs m ctx x c p k (by omega) hctx (hall x hx) (by have := Tr.kid_size hx; omega) (by have := Tr.kid_size hx; omega) hc q0 q1 q2 q3 s q4, zq6v hs m ctx x c p k hctx (hall x hx) (by have := Tr.kid_size hx; omega) hc q2 q3⟩
       have eb : ∀ o, (upd st b8 o) b = some (ckr sig k) := fun o => by rw [zq7 _ _ n8]; exact hb
       refine zq21 (zq67 b sig ctx (zqab sig m ctx) a.kids hfT hall (by omega) kt hktk (p + 1) k (by omega) (by omega) h0 h1 _ (eb _)) (fun r k2 hr => ?_) (fun c p2 k2 hr => ?_)
       ·rw [hr] at hv
        simp only at hv
        intro b10 hb10
        have m : b ≠ b10 := fun e => by rw [← e, zq2] at hb10; cases hb10
        have ar : zq16 b st (upd (upd st b8 (.cells (tree kt).cells)) b (ckr sig k2)) := ((zq16.refl b st).put hb8 _).draw _
        have hn := ar.isNone m.symm hb10
        try simp
        try simp [zq6 (zq2 _ _ _)]
        refine zql (fun hl1 => ?_) (fun hl1 => ?_)
        ·rw [if_pos hl1] at hv
         exact zq8a.ret rfl hv.symm (ar.put hn _) (by rw [zq7 _ _ m]; exact zq2 _ _ _)
        ·rw [if_neg hl1] at hv
         exact zqy (zqw 8 p (by omega) _) (fun h => by omega) (fun _ => zq8a.pan hv.symm (ar.put hn _) (by rw [zq7 _ _ m]; exact zq2 _ _ _))
       ·rw [hr] at hv
        exact zq8a.pan hv.symm (((zq16.refl b st).put hb8 _).draw _) (zq2 _ _ _)
    ·rw [if_neg h3] at hv
     exact zq8a.ret rfl hv.symm (zq16.refl b st) hb
end Go.H.Tryz
set_option linter.unusedVariables false
set_option linter.unusedSimpArgs false
namespace Go.H.Tryz
open Go Go.H

theorem ends_caught {P : Program} {g : FuncId} {us : List PV} {h : TypeId} {f : Fz} {st : St} {b : Nat} (hb : st b = none) (hc : zq5 P g us (upd st b (.cells [.int .i64 0, .int .i64 0])) (Ends h f (upd st b (.cells [.int .i64 0, .int .i64 0])))) :
  zq5 P g us (upd st b (.cells [.int .i64 0, .int .i64 0])) (Caught h b fun c p s => (c, p) = f ∧ s = st) :=
 hc.mono fun r s hr => by
  obtain ⟨rfl, hr⟩ := hr
  rcases hr with ⟨h1, h2⟩ | ⟨h1, h2⟩
  ·exact ⟨st, hb, rfl, .inl ⟨h2, h1.symm, rfl⟩⟩
  ·exact ⟨st, hb, rfl, .inr ⟨f.1, f.2, h2, rfl, rfl⟩⟩
theorem zqi5 {g : FuncId} {caps : List PV} {st : St} {f : Fz} {K Kp : PV → St → Prop} (hc : ∀ b, st b = none → zq5 prog g caps (upd st b (.cells [.int .i64 0, .int .i64 0])) (Ends ty_impl_halt f (upd st b (.cells [.int .i64 0, .int .i64 0])))) (hk : K (haltP f) st) : zqb prog n_impl_caught [.fn (.func g) [] caps] st K Kp := by
 refine zq15 (zq3q g caps st (fun c p s => (c, p) = f ∧ s = st) (fun b hb => ends_caught hb (hc b hb))) (fun p s h => ?_) (fun p s h => ?_)
 ·obtain ⟨c, p', h, rfl, rfl⟩ := h
  cases h
  exact hk
 ·obtain ⟨c, p', h, _⟩ := h
  cases h
theorem fam_ends (sig : List Dc) (hs : SigR sig) (ctx : List Tr) (hctx : ∀ a ∈ ctx, FF a) (hlen : ctx.length ≤ 1000) (a : Tr) (ha : FK a) (s : St) (b : Nat) (hb : s b = none) {K : PV → St → Prop} {R : Res → St → Prop}
  (h1 : zqfn (famC sig 900000 ctx a 0 0) = (0, 0) → ∀ k, K (.tup []) (upd (upd s b (ckr sig 0)) b (ckr sig k))) (h2 : ∀ c p k, c ≠ 0 → zqfn (famC sig 900000 ctx a 0 0) = (c, p) → panR R (halt ty_impl_halt c p) (upd (upd s b (ckr sig 0)) b (ckr sig k))) :
  zqb prog n_impl_checker_family [.ptr b 0, trees ctx, tree a, .int .i64 0] (upd s b (ckr sig 0)) K (panR R) := by
 have hf := zqgz hs 900000 ctx a 0 0 hctx ha (by omega) (by omega)
 have hasz := ha.2
 refine zq21 (zq36 b sig hs 900000 ctx a 0 0 (by omega) hctx ha (by omega) (by omega) (by omega) (by omega) (by omega) _ (zq2 _ _ _)) (fun u k hr => ?_) (fun c p k hr => ?_)
 ·exact h1 (by rw [hr]; rfl) k
 ·rw [hr] at hf
  exact h2 c p k (hf.2.2.1 _ rfl) (by rw [hr]; rfl)
theorem zqef (sig : List Dc) (hs : SigR sig) (d : Dc) (hd : d.type.isFam d.fam = true ∧ d.type.size ≤ 150) (st : St) : zq5 prog n_impl_declFault_1 [.ref [zqa7 sig], .ref (decl d).cells] st (Ends ty_impl_halt (zq5m sig d) st) := by
 apply zqf1
 unfold zq7o
 try simp
 rw [show zqe [PV.int IntKind.i64 0, PV.sl 0 true []] [(1, 1, PV.sl 6 false (List.map decl sig))] = some (.agg [.int .i64 0, zqa7 sig]) from rfl]
 simp only [zq20]
 refine zq2a rfl fun b hb => ?_
 refine zqda (us' := [.ptr b 0, trees [], tree d.type, .int .i64 0]) (st' := upd st b (ckr sig 0)) (Conv.cons (Conv.refl _ _) (Conv.cons (conv_nil4 _ _ _) (Conv.refl _ _))) ?_
 refine fam_ends sig hs [] (by simp) (by simp) d.type ⟨⟨_, hd.1⟩, hd.2⟩ st b hb (fun h k => ?_) (fun c p k hc h => ?_)
 ·exact Ends.ret h (by simpa using (Sub.refl st).put hb)
 ·exact Ends.pan h hc (by simpa using (Sub.refl st).put hb)
theorem zq95 (sig : List Dc) (hs : SigR sig) (d : Dc) (hd : d.type.isFam d.fam = true ∧ d.type.size ≤ 150) (st : St) : zq5 prog n_impl_declFault [zqa7 sig, decl d] st (Just (haltP (zq5m sig d)) st) := by
 apply zqic
 unfold zq9k
 refine zq9 rfl ?_
 refine zq9 (zq77 _) ?_
 intro b4 hb4
 refine zqi5 (f := zq5m sig d) (fun b hb => zqef sig hs d hd _) ?_
 unfold haltP
 try simp
 try simp [zq6 (zq2 _ _ _)]
 exact Just.ret ((Sub.refl st).put hb4)
theorem zqbl (sig : List Dc) (hs : SigR sig) (ctx : List Tr) (hctx : ∀ a ∈ ctx, FF a) (hlen : ctx.length ≤ 1000) (a : Tr) (ha : FK a) (st : St) : zq5 prog n_impl_familyFault_1 [.ref [zqa7 sig], .ref [trees ctx], .ref (tree a).cells] st (Ends ty_impl_halt (zq85 sig ctx a) st) := by
 apply zqby
 unfold zq5v
 try simp
 rw [show zqe [PV.int IntKind.i64 0, PV.sl 0 true []] [(1, 1, PV.sl 6 false (List.map decl sig))] = some (.agg [.int .i64 0, zqa7 sig]) from rfl]
 simp only [zq20]
 refine zq2a rfl fun b hb => ?_
 try simp
 refine fam_ends sig hs ctx hctx hlen a ha st b hb (fun h k => ?_) (fun c p k hc h => ?_)
 ·exact Ends.ret h (by simpa using (Sub.refl st).put hb)
 ·exact Ends.pan h hc (by simpa using (Sub.refl st).put hb)
theorem zq74 (sig : List Dc) (hs : SigR sig) (ctx : List Tr) (hctx : ∀ a ∈ ctx, FF a) (hlen : ctx.length ≤ 1000) (a : Tr) (ha : FK a) (st : St) : zq5 prog n_impl_familyFault [zqa7 sig, trees ctx, tree a] st (Just (haltP (zq85 sig ctx a)) st) := by
 apply zqf0
 unfold zq7n
 refine zq9 rfl ?_
 refine zq9 rfl ?_
 refine zq9 (zqf _) ?_
 intro b4 hb4
 refine zqi5 (f := zq85 sig ctx a) (fun b hb => zqbl sig hs ctx hctx hlen a ha _) ?_
 unfold haltP
 try simp
 try simp [zq6 (zq2 _ _ _)]
 exact Just.ret ((Sub.refl st).put hb4)
theorem zqai (d : Dc) (st : St) : zq5 prog n_impl_declForm [decl d] st (Just (.bool (zq87 d)) st) := by
 apply zqjy
 unfold zqb9
 generalize hv : zq87 d = v
 unfold zq87 at hv
 refine zq9 (zq77 _) ?_
 try simp
 cases hf : d.fam with
 | true =>
   rw [hf] at hv
   try simp
   refine zq1 (zq2w _ _) ?_
   try simp
   refine zq50 (fun g => ?_) (fun g => Just.bool (by rw [← hv, g]; rfl))
   refine zq1 (h_impl_KindOK _ _) ?_
   exact Just.bool (by rw [← hv, g]; rfl)
 | false =>
   rw [hf] at hv
   try simp
   refine zq1 (zq2w _ _) ?_
   try simp
   refine zq50 (fun g => ?_) (fun g => Just.bool (by rw [← hv, g]; rfl))
   refine zq1 (zq6n _ _) ?_
   exact Just.bool (by rw [← hv, g]; rfl)
theorem h_impl_has_1 (d : Dc) (n : List UInt8) (st : St) : zq5 prog n_impl_has_1 [decl d, .ref [.str n]] st (Just (.bool (named n d)) st) := by
 apply c_impl_has_1
 unfold zqij
 refine zq9 (zq77 _) ?_
 try simp
 exact Just.bool rfl
theorem h_impl_has (sig : List Dc) (hl : sig.length ≤ 1000000) (n : List UInt8) (st : St) : zq5 prog n_impl_has [zqa7 sig, .str n] st (Just (.bool (hasT sig n)) st) := by
 apply c_impl_has
 unfold b_impl_has
 generalize hv : hasT sig n = v
 unfold hasT at hv
 refine zq9 rfl ?_
 try simp
 have hc : zq5 prog n_slices_ContainsFunc_impl_Decl_impl_Decl [zqa7 sig, .fn (.func n_impl_has_1) [] [.ref [.str n]]] st (Just (.bool v) st) := by
  apply zq2u
  unfold zq1g
  refine zq1 (zq1n (named n) sig n_impl_has_1 [] [.ref [.str n]] hl _ (fun x hx => h_impl_has_1 x n _)) ?_
  try simp
  refine Just.bool ?_
  rw [← hv, Bool.eq_iff_iff, decide_eq_true_eq]
  exact fstOf_any (named n) sig
 refine zq1 (by simpa using hc) ?_
 exact Just.ret (Sub.refl _)
theorem h_impl_SigOK (sig : List Dc) (st : St) : zq5 prog n_impl_SigOK [zqa7 sig] st (Just (.bool (sigOKT sig)) st) := by
 apply c_impl_SigOK
 unfold zqin
 generalize hv : sigOKT sig = v
 unfold sigOKT at hv
 try simp
 refine zql (fun h => Just.bool (by rw [← hv, decide_eq_false (by omega)]; rfl)) (fun h => ?_)
 rw [decide_eq_true (by omega), Bool.true_and] at hv
 refine zqz (β := St) sig (fun _ i => [.int .i64 (i : Int)]) (fun s => s) (fun s i rest => sigGo sig i rest = v ∧ Sub st s ∧ SigR (sig.take i)) ?_ ?_ st ⟨hv, Sub.refl _, SigR.nil⟩
 ·rintro i d rest s hi hx ⟨hq, hs, hr⟩ kk
  rw [sigGo] at hq
  try simp [hi, ia_decl _ hx]
  intro b4 hb4
  try simp
  try simp [zq6 (zq2 _ _ _)]
  have hs4 : ∀ o, Sub st (upd s b4 o) := fun o => hs.put (hs.isNone hb4)
  have bad : (declT (sig.take i) d).1 ≠ 0 → v = false := fun h => by rw [← hq, decide_eq_false h]; rfl
  refine zq1 (zqai d _) ?_
  try simp
  refine zq50 (fun g1 => ?_) (fun g1 => Just.bool (bad (by unfold declT; rw [if_pos g1]; decide)).symm (hs4 _))
  rw [zqk6 _ (by simp; omega), ← List.map_take]
  try simp [zq6 (zq2 _ _ _)]
  refine zq1 (by simpa using h_impl_has (sig.take i) (by simp; omega) d.name _) ?_
  try simp
  refine zq50 (fun g2 => Just.bool (bad (by unfold declT; rw [if_neg (by rw [g1]; simp), if_pos g2]; decide)).symm (hs4 _)) (fun g2 => ?_)
  try rw [← List.map_take]
  try simp [zq6 (zq2 _ _ _)]
  refine zq1 (by simpa using zq95 (sig.take i) hr d (form_fk g1) _) ?_
  have hd : declT (sig.take i) d = zq5m (sig.take i) d := by unfold declT; rw [if_neg (by rw [g1]; simp), if_neg (by rw [g2]; simp)]
  unfold haltP
  try simp [zqcf]
  refine zql (fun g3 => ?_) (fun g3 => Just.bool (bad (by rw [hd]; exact g3)).symm (hs4 _))
  rw [W_idx hi (by unfold maxLen; omega)]
  refine kk _ ⟨by rw [← hq, decide_eq_true (by rw [hd]; exact g3)]; rfl, hs4 _, ?_⟩
  rw [zqgt hx]
  exact hr.snoc (by simp; omega) g1 g2
 ·rintro s ⟨hq, hs, hr⟩
  try simp
  exact Just.bool hq hs
theorem h_impl_CtxOK (sig : List Dc) (ctx : List Tr) (st : St) : zq5 prog n_impl_CtxOK [zqa7 sig, trees ctx] st (Just (.bool (zqen sig ctx)) st) := by
 apply c_impl_CtxOK
 unfold zqio
 generalize hv : zqen sig ctx = v
 unfold zqen at hv
 try simp
 refine zql (fun h => Just.bool (by rw [← hv, decide_eq_false (by omega)]; rfl)) (fun h => ?_)
 rw [decide_eq_true (by omega), Bool.true_and] at hv
 refine zq1 (by simpa using h_impl_SigOK sig _) ?_
 try simp
 refine zq50 (fun g => ?_) (fun g => Just.bool (by rw [← hv, g]; rfl))
 rw [g, Bool.true_and] at hv
 obtain ⟨hr, _⟩ := zqh8 g
 refine zqz (β := St) ctx (fun _ i => [.int .i64 (i : Int)]) (fun s => s) (fun s i rest => ctxGo sig ctx i rest = v ∧ Sub st s ∧ ∀ a ∈ ctx.take i, FF a) ?_ ?_ st ⟨hv, Sub.refl _, by simp⟩
 ·rintro i a rest s hi hx ⟨hq, hs, hc⟩ kk
  rw [ctxGo] at hq
  try simp [hi, zq4r _ hx]
  intro b4 hb4
  try simp
  try simp [zq6 (zq2 _ _ _)]
  have hs4 : ∀ o, Sub st (upd s b4 o) := fun o => hs.put (hs.isNone hb4)
  refine zq1 (zq6n a _) ?_
  try simp
  refine zq50 (fun g1 => ?_) (fun g1 => Just.bool (by rw [← hq, g1]; rfl) (hs4 _))
  rw [g1, Bool.true_and] at hq
  rw [zqk6 _ (by simp; omega), ← List.map_take]
  try simp [zq6 (zq2 _ _ _)]
  refine zq1 (by simpa using zq74 sig hr (ctx.take i) hc (by simp; omega) a (zqi3 g1).fk _) ?_
  unfold haltP
  try simp [zqcf]
  refine zql (fun g3 => ?_) (fun g3 => Just.bool (by rw [← hq, decide_eq_false g3]; rfl) (hs4 _))
  rw [decide_eq_true g3, Bool.true_and] at hq
  rw [W_idx hi (by unfold maxLen; omega)]
  refine kk _ ⟨hq, hs4 _, ?_⟩
  rw [zqgt hx]
  exact ctx_snoc hc (zqi3 g1)
 ·rintro s ⟨hq, hs, hc⟩
  try simp
  exact Just.bool hq hs
theorem h_impl_due (sig : List Dc) (ctx : List Tr) (hr : SigR sig) (hc : ∀ a ∈ ctx, FF a) (hl : ctx.length ≤ 1000) (a : Tr) (st : St) : zq5 prog n_impl_due [zqa7 sig, trees ctx, tree a] st (Just (.bool (dueT sig ctx a)) st) := by
 apply c_impl_due
 unfold b_impl_due
 generalize hv : dueT sig ctx a = v
 unfold dueT at hv
 refine zq9 (zqf _) ?_
 try simp
 refine zq1 (zq6n a _) ?_
 try simp
 refine zq50 (fun g1 => ?_) (fun g1 => Just.bool (by rw [← hv, g1]; rfl))
 rw [g1, Bool.true_and] at hv
 refine zq1 (by simpa using zq74 sig hr ctx hc hl a (zqi3 g1).fk _) ?_
 unfold haltP
 try simp [zqcf]
 exact Just.bool hv
def DoR (h : TypeId) (Q : Int → Int → St → Prop) (st s : St) (b5 : Nat) : Res → St → Prop := fun q s' => ∃ c p st', Q c p st' ∧ Sub st' s' ∧ (∀ b, st b = none → st' b = none) ∧ (∀ b, b ≠ b5 → st b = none → s' b = s b) ∧ ((c = 0 ∧ p = 0 ∧ q = .ret (.tup [])) ∨ (c ≠ 0 ∧ q = .pan (halt h c p)))
def ChkR (sig : List Dc) (ctx : List Tr) (form : Bool) (Q : Int → Int → St → Prop) (st : St) : Res → St → Prop := fun q s =>
 if sig.length > 4096 ∨ ctx.length > 4096 then s = st ∧ q = .ret (.tup [.int .i64 2, .int .i64 0])
 else if (zqen sig ctx && form) = false then s = st ∧ q = .ret (.tup [.int .i64 1, .int .i64 0])
 else ∃ c p, Q c p s ∧ q = .ret (.tup [.int .i64 c, .int .i64 p])
theorem zqht (sig : List Dc) (g : FuncId) (caps : List PV) (Q : Int → Int → St → Prop) (st : St) (b : Nat) (hb : st b = none)
  (hdo : ∀ s b5, Sub st s → st b5 = none → s b5 = some (ckr sig 0) → zq5 prog g (.ptr b5 0 :: caps) s (DoR ty_impl_halt Q st s b5)) :
  zq5 prog n_impl_checked_1 [.ref [.fn (.func g) [] caps], .ref [zqa7 sig]] (upd st b (.cells [.int .i64 0, .int .i64 0])) (Caught ty_impl_halt b Q) := by
 apply zqie
 unfold zq9m
 try simp
 rw [show zqe [PV.int IntKind.i64 0, PV.sl 0 true []] [(1, 1, PV.sl 6 false (List.map decl sig))] = some (.agg [.int .i64 0, zqa7 sig]) from rfl]
 simp only [zq20]
 refine zq2a rfl fun b5 hb5 => ?_
 have n5 : b5 ≠ b := fun e => by rw [e, zq2] at hb5; cases hb5
 rw [zq7 _ _ n5] at hb5
 have hsub : ∀ o, Sub st (upd (upd st b (.cells [.int .i64 0, .int .i64 0])) b5 o) := fun o => ((Sub.refl st).put hb).put hb5
 have eb : (upd (upd st b (.cells [.int .i64 0, .int .i64 0])) b5 (.cells (PV.agg [.int .i64 0, zqa7 sig]).cells)) b = some (.cells [.int .i64 0, .int .i64 0]) := by rw [zq7 _ _ n5.symm]; exact zq2 _ _ _
 refine zq15 (hdo _ b5 (hsub _) hb5 (zq2 _ _ _)) (fun q s h => ?_) (fun q s h => ?_)
 ·obtain ⟨c, p, st', hq, h1, h2, h3, h4⟩ := h
  rcases h4 with ⟨rfl, rfl, h4⟩ | ⟨_, h4⟩
  ·cases h4
   refine zq1h (st' := upd st' b (.cells [.int .i64 0, .int .i64 0])) (fun d o hd => ?_) ⟨st', h2 b hb, rfl, .inl ⟨rfl, hq⟩⟩
   by_cases hdb : d = b
   ·subst hdb
    rw [zq2] at hd
    rw [h3 _ n5.symm hb, eb]
    exact hd
   ·rw [zq7 _ _ hdb] at hd
    exact h1 d o hd
  ·cases h4
 ·obtain ⟨c, p, st', hq, h1, h2, h3, h4⟩ := h
  rcases h4 with ⟨_, _, h4⟩ | ⟨hc, h4⟩
  ·cases h4
  ·cases h4
   refine zq56 (st' := upd st' b (.cells [.int .i64 0, .int .i64 0])) (Conv.sub fun d o hd => ?_) ⟨st', h2 b hb, rfl, .inr ⟨c, p, rfl, hq⟩⟩
   by_cases hdb : d = b
   ·subst hdb
    rw [zq2] at hd
    rw [h3 _ n5.symm hb, eb]
    exact hd
   ·rw [zq7 _ _ hdb] at hd
    exact h1 d o hd
theorem zqm1 (sig : List Dc) (ctx : List Tr) (fg g : FuncId) (fcaps caps : List PV) (form : Bool) (Q : Int → Int → St → Prop) (st : St)
  (hform : zqen sig ctx = true → zq5 prog fg fcaps st (Just (.bool form) st))
  (hdo : zqen sig ctx = true → form = true → ∀ s b5, Sub st s → st b5 = none → s b5 = some (ckr sig 0) → zq5 prog g (.ptr b5 0 :: caps) s (DoR ty_impl_halt Q st s b5)) :
  zq5 prog n_impl_checked [zqa7 sig, trees ctx, .fn (.func fg) [] fcaps, .fn (.func g) [] caps] st (ChkR sig ctx form Q st) := by
 refine zq5.wf zqma fun hw => ?_
 have hw1 := (decls_wf hw.1).1
 have hw2 := (trees_wf hw.2.1).1
 unfold maxLen at hw1 hw2
 apply zqmi
 unfold zqdu
 generalize hR : ChkR sig ctx form Q st = R
 refine zq9 rfl ?_
 refine zq9 rfl ?_
 try simp
 refine zq1 (zq92 (sig.length : Int) [(ctx.length : Int)] (by simp) _) ?_
 try simp
 refine zq50 (fun h => ?_) (fun h => ?_)
 ·rw [← hR]
  refine zq29 ?_
  unfold ChkR
  rw [if_pos (by simp at h; omega)]
  exact ⟨rfl, rfl⟩
 ·have hl : ¬ (sig.length > 4096 ∨ ctx.length > 4096) := by simp at h; omega
  refine zq1 (by simpa using h_impl_CtxOK sig ctx _) ?_
  try simp
  refine zq50 (fun g1 => ?_) (fun g1 => ?_)
  ·refine zq1 (by simpa using hform g1) ?_
   try simp
   cases hform2 : form with
   | false =>
     try simp
     rw [← hR]
     refine zq29 ?_
     unfold ChkR
     rw [if_neg hl, if_pos (by rw [g1, hform2]; rfl)]
     exact ⟨rfl, rfl⟩
   | true =>
     try simp
     refine zq15 (zq3q n_impl_checked_1 [.ref [.fn (.func g) [] caps], .ref [zqa7 sig]] st Q (fun b hb => zqht sig g caps Q st b hb (hdo g1 hform2))) (fun p s h => ?_) (fun p s h => by obtain ⟨c, p', h, _⟩ := h; cases h)
     obtain ⟨c, p', h, hq⟩ := h
     cases h
     intro b10 hb10
     try simp
     try simp [zq6 (zq2 _ _ _)]
     rw [← hR]
     refine zq1h ((Sub.refl s).put hb10) ?_
     unfold ChkR
     rw [if_neg hl, if_neg (by rw [g1, hform2]; simp)]
     exact ⟨c, p', hq, rfl⟩
  ·rw [← hR]
   refine zq29 ?_
   unfold ChkR
   rw [if_neg hl, if_pos (by rw [g1]; rfl)]
   exact ⟨rfl, rfl⟩
theorem DoR.plain {h : TypeId} {f : Fz} {st s s' : St} {b5 : Nat} {q : Res} {k : Int} {sig : List Dc} (hs : Sub st s) (hb : st b5 = none) (e : s' = upd s b5 (ckr sig k)) (hq : (f = (0, 0) ∧ q = .ret (.tup [])) ∨ (f.1 ≠ 0 ∧ q = .pan (halt h f.1 f.2))) : DoR h (fun c p st' => (c, p) = f ∧ st' = st) st s b5 q s' := by
 subst e
 refine ⟨f.1, f.2, st, ⟨rfl, rfl⟩, fun b o hb' => ?_, fun b hb => hb, fun b hne _ => zq7 _ _ hne, ?_⟩
 ·have : b ≠ b5 := fun e => by rw [e, hb] at hb'; cases hb'
  rw [zq7 _ _ this]
  exact hs b o hb'
 ·rcases hq with ⟨h1, h2⟩ | h2
  ·subst h1
   exact .inl ⟨rfl, rfl, h2⟩
  ·exact .inr h2
theorem callK_chk {sig : List Dc} {ctx : List Tr} {fg g : FuncId} {fcaps caps : List PV} {form : Bool} {f : Fz} {st : St} {K Kp : PV → St → Prop} (hc : zq5 prog n_impl_checked [zqa7 sig, trees ctx, .fn (.func fg) [] fcaps, .fn (.func g) [] caps] st (ChkR sig ctx form (fun c p st' => (c, p) = f ∧ st' = st) st))
  (hk : K (.tup [.int .i64 (zq98 sig ctx form f).1, .int .i64 (zq98 sig ctx form f).2]) st) : zqb prog n_impl_checked [zqa7 sig, trees ctx, .fn (.func fg) [] fcaps, .fn (.func g) [] caps] st K Kp := by
 unfold zq98 at hk
 refine zq15 hc (fun q s h => ?_) (fun q s h => ?_)
 ·unfold ChkR at h
  split at h
  ·rename_i hl
   rw [if_pos hl] at hk
   obtain ⟨rfl, h⟩ := h
   cases h
   exact hk
  ·rename_i hl
   rw [if_neg hl] at hk
   split at h
   ·rename_i hl2
    rw [if_pos hl2] at hk
    obtain ⟨rfl, h⟩ := h
    cases h
    exact hk
   ·rename_i hl2
    rw [if_neg hl2] at hk
    obtain ⟨c, p, ⟨rfl, rfl⟩, h⟩ := h
    cases h
    exact hk
 ·unfold ChkR at h
  split at h
  ·obtain ⟨_, h⟩ := h; cases h
  ·split at h
   ·obtain ⟨_, h⟩ := h; cases h
   ·obtain ⟨c, p, _, h⟩ := h; cases h
def codesP (f : Fz) : PV := .tup [.int .i64 f.1, .int .i64 f.2]
def zq6u (sig : List Dc) (ctx : List Tr) (t a : Tr) : Fz := zqfn (zqab sig 900000 ctx t a 0 0)
theorem zqhx (sig : List Dc) (ctx : List Tr) (t a : Tr) (st : St) : zq5 prog n_impl_CheckTerm [zqa7 sig, trees ctx, tree t, tree a] st (Just (codesP (zq98 sig ctx (t.termOK && dueT sig ctx a) (zq6u sig ctx t a))) st) := by
 apply zqii
 unfold zq9q
 refine zq9 rfl ?_
 refine zq9 rfl ?_
 refine zq9 (zqf _) ?_
 refine zq9 (zqf _) ?_
 try simp
 refine callK_chk (f := zq6u sig ctx t a) (form := t.termOK && dueT sig ctx a) (zqm1 sig ctx _ _ _ _ _ _ st (fun hc => ?_) (fun hc hf s b5 hsub h5n h5 => ?_)) ?_
 ·obtain ⟨h1, h2, h3, h4⟩ := zqi4 hc
  apply zqf7
  unfold zq7u
  try simp
  refine zq1 (zqfl t _) ?_
  try simp
  refine zq50 (fun g => ?_) (fun g => Just.bool (by rw [g]; rfl))
  refine zq1 (by simpa using h_impl_due sig ctx h1 h2 (by omega) a _) ?_
  exact Just.bool (by rw [g]; rfl)
 ·apply zqf6
  unfold zq7t
  try simp
  obtain ⟨h1, h2, h3, h4⟩ := zqi4 hc
  rw [Bool.and_eq_true] at hf
  obtain ⟨ht, hts⟩ := termOK_of hf.1
  have hdue := hf.2
  unfold dueT at hdue
  rw [Bool.and_eq_true] at hdue
  have haf := zqi3 hdue.1
  have hfine := zq6v h1 900000 ctx t a 0 0 h2 ht (by omega) haf (by omega) (by omega)
  refine zq21 (zq2o b5 sig h1 900000 ctx t a 0 0 (by omega) h2 ht (by omega) (by omega) haf (by omega) (by omega) (by omega) (by omega) _ h5) (fun u k hr => ?_) (fun c p k hr => ?_)
  ·exact zq29 (DoR.plain hsub h5n rfl (.inl ⟨by unfold zq6u; rw [hr]; rfl, rfl⟩))
  ·rw [hr] at hfine
   exact panR_same (DoR.plain hsub h5n rfl (.inr ⟨by unfold zq6u; rw [hr]; exact hfine.2.2.1 _ rfl, by unfold zq6u; rw [hr]; rfl⟩))
 ·simp
  exact Just.ret (Sub.refl _)
end Go.H.Tryz
set_option linter.unusedVariables false
set_option linter.unusedSimpArgs false
namespace Go.H.Tryz
open Go Go.H

structure SR (sig : List Dc) (b b' : Nat) (k : Int) (s : St) : Prop where
 run : s b = some (srun sig b' 0 0)
 cn : s b' = some (cnt k)
end Go.H.Tryz
set_option linter.unusedVariables false
set_option linter.unusedSimpArgs false
namespace Go.H.Tryz
open Go Go.H

end Go.H.Tryz
set_option linter.unusedVariables false
set_option linter.unusedSimpArgs false
namespace Go.H.Tryz
open Go Go.H

def codesS (f : Fz) : PV := .tup [.int .i64 f.1, .int .i64 f.2]
theorem gets {sig : List Dc} {b b' : Nat} {f : Fz} {st s : St} {v : PV} (hsub : Sub st s) (hb : s b = some (srun sig b' f.1 f.2)) (hq : v = codesS f) :
  qb (zq0 s false 1 (.ptr b 2)) fun v52 => qb (zq0 s false 1 (.ptr b 3)) fun v56 => retR (Just v st) (.tup [v52, v56]) s := by
 have hb0 : s b = some (.cells [.sl 6 false (sig.map decl), .ptr b' 0, .int .i64 f.1, .int .i64 f.2]) := hb
 try simp [zq6 hb0]
 rw [hq]
 exact Just.ret hsub
end Go.H.Tryz
