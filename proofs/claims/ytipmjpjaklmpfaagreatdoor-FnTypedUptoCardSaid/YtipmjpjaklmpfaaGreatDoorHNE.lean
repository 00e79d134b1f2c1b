/- Part of a proof that the program answers as the reference does: ZGC140, ZGC141, ZGC142, ZGC143, ZGC144. -/
import Derived.Test.YtipmjpjaklmpfaaGreatDoorHY
import Derived.Test.YtipmjpjaklmpfaaGreatDoorHZ
import Derived.Test.YtipmjpjaklmpfaaGreatDoorHM
import Derived.Test.YtipmjpjaklmpfaaGreatDoorHF
/- Contracts: drawn long terms: the spine of a head. -/
set_option linter.unusedVariables false
set_option linter.unusedSimpArgs false
namespace Go.H.Tryz
open Go Go.H

def z4T : List PV := [.int .i64 0, .int .i64 0, .str [], .sl 0 true []]
theorem _root_.Go.H.Src.same {bs : List UInt8} {M : Int} {b : Nat} {st st' : St} (h : Src bs M b st) (e : st' b = st b) : Src bs M b st' := by
  obtain ⟨a, s, h1, h2⟩ := h.is
  exact ⟨a, s, by rw [e]; exact h1, h2⟩
theorem _root_.Go.H.HS.redraw {bs : List UInt8} {M M' : Int} {b : Nat} {st w : St} {L : List (Nat × PV)} {P : List (Nat × List PV)} {o : HObj} (h : HS bs M b st w L P) (hs : Src bs M' b (upd w b o)) : HS bs M' b st (upd w b o) L P :=
  ⟨hs, fun c oc hcb h0 => by rw [upd_ne _ _ hcb]; exact h.ar c oc hcb h0,
    fun x hx => by rw [upd_ne _ _ (h.out x.1 (List.mem_append_left _ (List.mem_map_of_mem hx))).1]; exact h.got x hx,
    fun x hx => by rw [upd_ne _ _ (h.out x.1 (List.mem_append_right _ (List.mem_map_of_mem hx))).1]; exact h.zat x hx, h.nd, h.out⟩
theorem _root_.Go.H.HS.put_at {bs : List UInt8} {M : Int} {b : Nat} {st w : St} {L : List (Nat × PV)} {P : List (Nat × List PV)} {z : List PV} {c : Nat} (h : HS bs M b st w L P) (hb : w c = none) : HS bs M b st (upd w c (.cells z)) L (P ++ [(c, z)]) := by
  obtain ⟨v, hv, h'⟩ := h.alloc (z := z) (K := fun p w' => ∃ v, p = .ptr v 0 ∧ HS bs M b st w' L (P ++ [(v, z)])) (fun v w' h' => ⟨v, rfl, h'⟩) c hb
  cases hv
  exact h'
/-- What is drawn: a long term of a type. -/
def LongQ (L hs : List Tr) (a : Tr) (n : Nat) (p : PV) : Prop := ∃ t, p = tree t ∧ LT someConsts hs L.reverse t a ∧ t.size ≤ n ∧ t.isTerm false = true
theorem set4 {x : PV} (hx : Box 4 x) : setRange z4T 0 x.cells = x.cells := by
  obtain ⟨cs, rfl, hl, _⟩ := hx
  match cs, hl with
  | [a, b, c, d], _ => rfl
theorem typed_p4 (bs : List UInt8) (b D : Nat) (L hs : List Tr) (hLl : L.length ≤ 100) (hhl : hs.length ≤ 40) (Mf : Int) (N : Nat) (s0 : List UInt8) (hd : Hd) (st0 : St)
    (hrec : 0 < D → ∀ (x : Tr) (j : Nat) (s' : List UInt8), Nice j s' x → ∀ (M : Int) (st : St), M + dC (D - 1) ≤ Mf → Src bs M b st → HCalls prog n_spec_l00Src_typed [.ptr b 0, trees L, trees hs, tree x, .int .i64 ((D : Int) - 1)] st (Drew bs (M + dC (D - 1)) b (LongQ L hs x (dS (D - 1) + 4)) st))
    (v10 v18 k : Nat) (tys : List Tr) (hk : tys[k]? = some hd.ty) (hh : HeadOf someConsts hs L.reverse hd) (κ : Nat) (hty : Nice κ s0 hd.ty) (hκ : κ = 0 ∨ 0 < D) (hD : D ≤ 100)
    (M : Int) (w : St) (hw : HS bs M b st0 w [(v18, hd.raw)] [(v10, z4T)]) (hM : M + (κ * dC (D - 1) : Nat) ≤ Mf) (hN : 1 + κ * (dS (D - 1) + 4) ≤ N)
    (x3 x8 x11 x12 x14 x15 x16 x20 x21 x22 x41 x42 x43 x44 x45 x46 x47 x87 x88 x89 x90 x126 x127 x128 x129 x172 x173 x174 x175 x176 x177 x178 x179 : PV) :
    b_spec_l00Src_typed_p4 (.ptr b 0) (trees L) (trees hs) x3 (.int .i64 D) x8 (.ptr v10 0) x11 x12 (.sl 4 false (tys.map tree)) x14 x15 x16 (.int .i64 k) (.ptr v18 0) x20 x21 x22 x41 x42 x43 x44 x45 x46 x47 x87 x88 x89 x90 x126 x127 x128 x129 x172 x173 x174 x175 x176 x177 x178 x179 w (Drew bs Mf b (LongQ L hs (.base s0) N) st0) := by
  unfold b_spec_l00Src_typed_p4
  have e18 := hw.got (v18, hd.raw) (by simp)
  have e10 := hw.zat (v10, z4T) (by simp)
  have n1018 : v18 ≠ v10 := by
    have := hw.nd
    simp at this
    exact this
  obtain ⟨n18b, o18⟩ := hw.out v18 (by simp)
  obtain ⟨n10b, o10⟩ := hw.out v10 (by simp)
  have start : MkN w v18 hd [] (.sl 0 true []) w := by
    have : MkN w v18 hd [] (.sl 0 true []) (upd w v18 (.cells [.int .i64 hd.kd, .int .i64 hd.n, .str hd.nm, .sl 0 true []])) := Grow.nil _ _ _
    have e : upd w v18 (.cells [.int .i64 hd.kd, .int .i64 hd.n, .str hd.nm, .sl 0 true []]) = w := by
      funext c
      unfold upd
      split
      · rename_i h; rw [h]; exact e18.symm
      · rfl
    rw [e] at this
    exact this
  refine qb_of (ia_tree .i64 hk) ?_
  refine qb_of (ltr _ _) ?_
  intro v19 hv19
  refine e_store_ptr (upd_same _ _ _) (tree_cellOK _) (tree_ncells _) (tree_isJunk _) (by simp) ?_
  rw [upd_upd, show setRange [.int .i64 0, .int .i64 0, .str [], .sl 0 true []] 0 (tree hd.ty).cells = (tree hd.ty).cells from set4 (Box.tree _)]
  refine hFix_nat (fun n ls s => ∃ v19 w p M ks P ty, ls = [.ptr v19 0] ∧ Nice n s0 ty ∧ HS bs M b st0 w [(v18, hd.raw)] ((v10, z4T) :: P) ∧ (v19, (tree ty).cells) ∈ P ∧ MkN w v18 hd ks p s ∧ LS someConsts hs L.reverse ks hd.ty ty ∧
    M + (n * dC (D - 1) : Nat) ≤ Mf ∧ Tr.sizes ks + n * (dS (D - 1) + 4) + 1 ≤ N ∧ ks.length + n ≤ 4 ∧ (n = 0 ∨ 0 < D) ∧ ∀ x ∈ ks, x.isTerm false = true) ?_ κ _ _
    ⟨v19, _, _, M, [], [(v19, (tree hd.ty).cells)], hd.ty, rfl, hty, hw.put_at hv19, by simp, start.beside _ hv19, .nil, hM, by simp [Tr.sizes]; omega, by simpa using hty.le, hκ, by simp⟩
  clear hv19 hM hN start hty hκ e18 e10 hw
  rintro n _ s ⟨v19, w, p, M, ks, P, ty, rfl, hty, hw, h19, hg, hls, hM, hN, hlen, hn, hkt⟩ ih
  have e10 := hw.zat (v10, z4T) (by simp)
  have e19 := hw.zat _ (List.mem_cons_of_mem _ h19)
  have nd := hw.nd
  have n19 : v19 ≠ v18 := fun e => by
    simp only [List.map_cons, List.map_nil, List.cons_append, List.nil_append, List.nodup_cons] at nd
    exact nd.1 (by rw [← e]; exact List.mem_cons_of_mem _ (List.mem_map.2 ⟨_, h19, rfl⟩))
  have f19 : s v19 = some (.cells (tree ty).cells) := hg.other n19 e19
  refine qb_of (x := .ptr v19 0) rfl ?_
  refine qb_of (x := .int .i64 ty.kind) (by rw [q_load_ptr f19]; simp) ?_
  refine qb_of (x := .bool (decide (ty.kind = 10))) (by simp) ?_
  refine cbr_dec (fun h10 => ?_) (fun h10 => ?_)
  · obtain ⟨m, rfl⟩ : ∃ m, n = m + 1 := by
      cases n with
      | zero => rw [hty.kind, if_pos rfl] at h10; omega
      | succ m => exact ⟨m, rfl⟩
    obtain ⟨j, s', x, y, rfl, hx, hy⟩ := hty.succ
    have hD0 : 0 < D := by omega
    rw [Nat.succ_mul] at hM hN
    refine qb_of (x := .ptr v18 3) rfl ?_
    refine qb_of hg.row ?_
    refine qb_of (x := .ptr v19 3) rfl ?_
    refine qb_of (x := .sl 4 false [tree x, tree y]) (by rw [q_load_ptr f19]; simp [Tr.arrow, tree_cells, Tr.kids, takeV]) ?_
    refine qb_of (x := .ref (tree x).cells) rfl ?_
    refine qb_of (ltr _ _) ?_
    refine qb_of (qdec (by omega)) ?_
    have hsrc : Src bs M b s := hw.src.same (by
      obtain ⟨o, ho⟩ := hw.src.some
      rw [ho]; exact hg.other (Ne.symm n18b) ho)
    refine callK_drew (hrec hD0 x j s' hx M s (by omega) hsrc) (fun q o hq hs' => ?_)
    obtain ⟨t, rfl, ht, hts, htt⟩ := hq
    obtain ⟨ob, hob⟩ := hw.src.some
    have hw2 := hw.redraw (o := o) (hs'.same (by rw [upd_same, upd_same]))
    have hg2 := hg.store o (Ne.symm n18b) hob
    refine ⟨hg2.row, ?_⟩
    refine qb_of (x := .sl 4 true [tree t]) (by simp) ?_
    refine hg2.more (by omega) fun p' s1 hg3 => ?_
    have e19' := hw2.zat _ (List.mem_cons_of_mem _ h19)
    have f19' : s1 v19 = some (.cells (tree (Tr.arrow x y)).cells) := hg3.other n19 e19'
    refine qb_of (x := tree (Tr.arrow x y)) (by show q_load s1 true 4 (.ptr v19 0) = _; rw [q_load_ptr f19']; simp) ?_
    intro c hc
    have hcw := hg3.none hc
    refine e_store_ptr (upd_same _ _ _) (tree_cellOK _) (tree_ncells _) (tree_isJunk _) (by simp) ?_
    rw [upd_upd, show setRange [.int .i64 0, .int .i64 0, .str [], .sl 0 true []] 0 (tree (Tr.arrow x y)).cells = (tree (Tr.arrow x y)).cells from set4 (Box.tree _)]
    refine qb_of (x := .ptr c 3) rfl ?_
    refine qb_of (x := .sl 4 false [tree x, tree y]) (by rw [q_load_ptr (upd_same _ _ _)]; simp [Tr.arrow, tree_cells, Tr.kids, takeV]) ?_
    refine qb_of (x := .ref (tree y).cells) rfl ?_
    refine qb_of (ltr _ _) ?_
    refine e_store_ptr (upd_same _ _ _) (tree_cellOK _) (tree_ncells _) (tree_isJunk _) (by simp) ?_
    rw [upd_upd, show setRange (tree (Tr.arrow x y)).cells 0 (tree y).cells = (tree y).cells by rw [tree_cells, tree_cells]; rfl]
    refine ih m _ _ (by omega) ⟨c, _, p', M + dC (D - 1), ks ++ [t], P ++ [(c, (tree y).cells)], y, rfl, hy, hw2.put_at hcw, by simp, hg3.beside _ hc, hls.snoc ht, by omega, ?_, by simp; omega, .inr hD0, fun z hz => by
      rcases List.mem_append.1 hz with hz | hz
      · exact hkt z hz
      · simp only [List.mem_singleton] at hz; subst hz; exact htt⟩
    rw [show Tr.sizes (ks ++ [t]) = Tr.sizes ks + t.size by simp [Tr.sizes]]
    omega
  · have hn0 : n = 0 := by
      cases n with
      | zero => rfl
      | succ m => rw [hty.kind, if_neg (by omega)] at h10; exact absurd rfl h10
    subst hn0
    have hb := hty.zero
    subst hb
    have hat := hg.at
    obtain ⟨q1, q2, q3, q4⟩ := hg.one
    refine qb_of (x := .agg [.int .i64 hd.kd, .int .i64 hd.n, .str hd.nm, p]) (by rw [q_load_ptr hat]; rfl) ?_
    have e10' := hg.other (Ne.symm n1018) e10
    refine e_store_ptr e10' (by show (true && (true && (true && (p.cellOK && true)))) = true; rw [q4]; rfl) rfl rfl (by simp [z4T]) ?_
    have hs := hg.store (.cells [.int .i64 hd.kd, .int .i64 hd.n, .str hd.nm, p]) (Ne.symm n1018) e10
    rw [show setRange z4T 0 (PV.agg [.int .i64 hd.kd, .int .i64 hd.n, .str hd.nm, p]).cells = [.int .i64 hd.kd, .int .i64 hd.n, .str hd.nm, p] by rfl]
    refine qb_of (x := .agg [.int .i64 hd.kd, .int .i64 hd.n, .str hd.nm, p]) (by rw [q_load_ptr (upd_same _ _ _)]; rfl) ?_
    refine retR_via hs.freeze ?_
    refine Drew.fin ⟨_, rfl, hh.term hls, ?_, hh.isTerm (by simpa using hLl) (by omega) hkt⟩ ?_ ?_
    · rw [Tr.size_kids]
      show 1 + Tr.sizes ks ≤ N
      omega
    · refine (hw.src.mono (by omega)).same ?_
      rw [upd_ne _ _ (Ne.symm n18b), upd_ne _ _ (Ne.symm n10b)]
    · intro c o hcb h0
      rw [upd_ne _ _ (fun e => by rw [e, o18] at h0; cases h0), upd_ne _ _ (fun e => by rw [e, o10] at h0; cases h0)]
      exact hw.ar c o hcb h0
end Go.H.Tryz
/- Contracts: drawn long terms: the heads. -/
set_option linter.unusedVariables false
set_option linter.unusedSimpArgs false
namespace Go.H.Tryz
open Go Go.H

theorem h_spec_l03Target {k : Nat} {s0 : List UInt8} {t : Tr} (hn : Nice k s0 t) (st : St) : HCalls prog n_spec_l03Target [tree t] st (Just (tree (.base s0)) st) := by
  apply c_spec_l03Target
  unfold b_spec_l03Target
  refine e_box_own (tree_isJunk _) fun b1 hb1 => ?_
  have h1 := (Held.start st).put_at (z := (tree t).cells) hb1
  intro v2 hv2
  have h2 := h1.put_at (z := z4T) hv2
  have o1 := h2.out b1 (by simp)
  have o2 := h2.out v2 (by simp)
  have ne : b1 ≠ v2 := by
    have := h2.nd
    simp at this
    exact this
  have e1 := h2.zat (b1, (tree t).cells) (by simp)
  have e2 := h2.zat (v2, z4T) (by simp)
  have hsub := h2.sub
  show hFix _ _ (upd (upd st b1 (.cells (tree t).cells)) v2 (.cells z4T))
  generalize upd (upd st b1 (.cells (tree t).cells)) v2 (.cells z4T) = w at e1 e2 hsub
  refine hFix_nat (fun n ls s => ls = [] ∧ ∃ ty, Nice n s0 ty ∧ Sub st s ∧ s b1 = some (.cells (tree ty).cells) ∧ s v2 = some (.cells z4T)) ?_ k _ _ ⟨rfl, t, hn, hsub, e1, e2⟩
  clear hsub e1 e2 hn h1 h2 hv2
  rintro n _ s ⟨rfl, ty, hty, hsub, e1, e2⟩ ih
  refine qb_of (x := .ptr b1 0) rfl ?_
  refine qb_of (x := .int .i64 ty.kind) (by rw [q_load_ptr e1]; simp) ?_
  refine qb_of (x := .bool (decide (ty.kind = 10))) (by simp) ?_
  refine cbr_dec (fun h10 => ?_) (fun h10 => ?_)
  · obtain ⟨m, rfl⟩ : ∃ m, n = m + 1 := by
      cases n with
      | zero => rw [hty.kind, if_pos rfl] at h10; omega
      | succ m => exact ⟨m, rfl⟩
    obtain ⟨j, s', x, y, rfl, hx, hy⟩ := hty.succ
    refine qb_of (x := .ptr b1 3) rfl ?_
    refine qb_of (x := .sl 4 false [tree x, tree y]) (by rw [q_load_ptr e1]; simp [Tr.arrow, tree_cells, Tr.kids, takeV]) ?_
    refine qb_of (x := .ref (tree y).cells) rfl ?_
    refine qb_of (ltr _ _) ?_
    refine e_store_ptr e1 (tree_cellOK _) (tree_ncells _) (tree_isJunk _) (by simp) ?_
    rw [show setRange (tree (Tr.arrow x y)).cells 0 (tree y).cells = (tree y).cells by rw [tree_cells, tree_cells]; rfl]
    exact ih m _ _ (by omega) ⟨rfl, y, hy, hsub.put o1, upd_same _ _ _, by rw [upd_ne _ _ (Ne.symm ne)]; exact e2⟩
  · have hn0 : n = 0 := by
      cases n with
      | zero => rfl
      | succ m => rw [hty.kind, if_neg (by omega)] at h10; exact absurd rfl h10
    subst hn0
    have hb := hty.zero
    subst hb
    refine qb_of (x := tree (.base s0)) (by rw [q_load_ptr e1]; simp) ?_
    refine e_store_ptr e2 (tree_cellOK _) (tree_ncells _) (tree_isJunk _) (by simp [z4T]) ?_
    rw [set4 (Box.tree _)]
    refine qb_of (x := tree (.base s0)) (by rw [q_load_ptr (upd_same _ _ _)]; simp) ?_
    exact Just.ret (hsub.put o2)
theorem rawVar (n : Int) (st : St) : HCalls prog n_spec_l01Var [.int .i64 n, .sl 0 true []] st (Just (.agg [.int .i64 5, .int .i64 n, .str [], .sl 0 true []]) st) := by
  apply c_spec_l01Var
  unfold b_spec_l01Var
  refine (Held.start st).alloc fun v4 w1 h1 => ?_
  refine qb_of (x := .agg [.int .i64 5, .int .i64 n, .str [], .sl 0 true []]) rfl ?_
  refine h1.store (n := 4) ⟨_, rfl, rfl, rfl⟩ rfl fun w2 h2 => ?_
  refine qb_of (h2.top (n := 4) ⟨_, rfl, rfl, rfl⟩) ?_
  exact Just.ret h2.sub
theorem rawConst (nm : List UInt8) (st : St) : HCalls prog n_spec_l01Const [.str nm, .sl 0 true []] st (Just (.agg [.int .i64 6, .int .i64 0, .str nm, .sl 0 true []]) st) := by
  apply c_spec_l01Const
  unfold b_spec_l01Const
  refine (Held.start st).alloc fun v4 w1 h1 => ?_
  refine qb_of (x := .agg [.int .i64 6, .int .i64 0, .str nm, .sl 0 true []]) rfl ?_
  refine h1.store (n := 4) ⟨_, rfl, rfl, rfl⟩ rfl fun w2 h2 => ?_
  refine qb_of (h2.top (n := 4) ⟨_, rfl, rfl, rfl⟩) ?_
  exact Just.ret h2.sub
theorem nice_base {k : Nat} {s s' : List UInt8} (h : Nice k s' (.base s)) : k = 0 ∧ s' = s := by
  have hk := h.kind
  have h0 : k = 0 := by
    by_cases h0 : k = 0
    · exact h0
    · rw [if_neg h0] at hk; exact absurd hk (by simp [Tr.base, Tr.kind])
  subst h0
  have := h.zero
  simp only [Tr.base, Tr.mk.injEq] at this
  exact ⟨rfl, this.2.2.1.symm⟩
def Heads (L hs : List Tr) (D : Nat) (s0 : List UInt8) (H : List Hd) : Prop := ∀ h ∈ H, HeadOf someConsts hs L.reverse h ∧ ∃ k, Nice k s0 h.ty ∧ (k = 0 ∨ 0 < D)
/-- The recursive draw, of one less. -/
def Rec (bs : List UInt8) (b D : Nat) (L hs : List Tr) (Mf : Int) : Prop := 0 < D → ∀ (x : Tr) (j : Nat) (s' : List UInt8), Nice j s' x → ∀ (M : Int) (st : St), M + dC (D - 1) ≤ Mf → Src bs M b st → HCalls prog n_spec_l00Src_typed [.ptr b 0, trees L, trees hs, tree x, .int .i64 ((D : Int) - 1)] st (Drew bs (M + dC (D - 1)) b (LongQ L hs x (dS (D - 1) + 4)) st)
theorem dC_le {D κ : Nat} (hk : κ ≤ 4) (h : κ = 0 ∨ 0 < D) : 1 + κ * dC (D - 1) ≤ dC D := by
  cases D with
  | zero => rcases h with rfl | h
            · simp [dC]
            · omega
  | succ d =>
    have := Nat.mul_le_mul_right (dC d) hk
    simp only [dC, Nat.add_sub_cancel]
    omega
theorem dS_le {D κ : Nat} (hk : κ ≤ 4) (h : κ = 0 ∨ 0 < D) : 1 + κ * (dS (D - 1) + 4) ≤ dS D := by
  cases D with
  | zero => rcases h with rfl | h
            · simp [dS]
            · omega
  | succ d =>
    have := Nat.mul_le_mul_right (dS d + 4) hk
    simp only [dS, Nat.add_sub_cancel]
    omega
theorem typed_p3 (bs : List UInt8) (hbs : bs.length ≤ 1000000000) (b D : Nat) (hD : D ≤ 100) (L hs : List Tr) (hL : ∀ x ∈ L, NiceT x) (hhs : ∀ x ∈ hs, NiceT x) (hLl : L.length ≤ 100) (hhl : hs.length ≤ 40) (M : Int) (hM : M + dC D ≤ 100000000) (hM0 : 0 ≤ M) (s0 : List UInt8) (hs0 : s0 = sNat ∨ s0 = sO) (st0 : St)
    (hrec : Rec bs b D L hs (M + dC D)) (v10 : Nat) (w : St) (hw : HS bs M b st0 w [] [(v10, z4T)]) (H0 : List Hd) (p1 p2 : PV) (s : St) (h2 : Two w (H0.map Hd.raw) ((H0.map Hd.ty).map tree) p1 p2 s) (hH : Heads L hs D s0 H0) (hl0 : H0.length ≤ L.length + hs.length + 0)
    (x3 x14 x15 x20 x21 x22 x41 x42 x43 x44 x45 x46 x47 x87 x88 x89 x90 : PV) :
    b_spec_l00Src_typed_p3 (.ptr b 0) (trees L) (trees hs) x3 (.int .i64 D) (.ref (tree (.base s0)).cells) (.ptr v10 0) (typeds someConsts) p1 p2 x14 x15 x20 x21 x22 x41 x42 x43 x44 x45 x46 x47 x87 x88 x89 x90 s (Drew bs (M + dC D) b (LongQ L hs (.base s0) (dS D)) st0) := by
  unfold b_spec_l00Src_typed_p3 bx_spec_l00Src_typed_p3
  have hcl : someConsts.length = 6 := rfl
  refine loop_cv (β := List Hd × PV × PV × St) someConsts (fun z i => [z.2.1, z.2.2.1, .int .i64 (i : Int)]) (fun z => z.2.2.2) (fun z i rest => Two w (z.1.map Hd.raw) ((z.1.map Hd.ty).map tree) z.2.1 z.2.2.1 z.2.2.2 ∧ Heads L hs D s0 z.1 ∧ z.1.length ≤ L.length + hs.length + i ∧ (∀ x ∈ someConsts.take i, x.type = .base s0 → z.1 ≠ [])) ?_ ?_ (H0, p1, p2, s) ⟨h2, hH, hl0, by simp⟩
  · rintro i x rest ⟨H, p1, p2, s⟩ hi hx ⟨h2, hH, hl, hne⟩ kk
    simp only at h2 hH hl hne
    obtain ⟨k', s', hn⟩ := someConsts_nice x (List.mem_of_getElem? hx)
    refine qb_of (x := .int .i64 (someConsts.length : Int)) (by simp) ?_
    refine qb_of (x := .bool true) (by simp [hi]) ?_
    rw [cb_bool, br_true]
    refine hJ_of fun J hJ => ?_
    have main : ∀ c : Bool, c = decide (s' = s0 ∧ (0 < D ∨ k' = 0)) → J [.bool c] s := fun c hc => by
      refine hJ _ _ ?_
      show cb (.bool c) _
      refine br_of (fun h => ?_) (fun h => ?_)
      · rw [h] at hc
        obtain ⟨e1, e2⟩ := of_decide_eq_true hc.symm
        subst e1
        refine qb_of (ia_typed .i64 hx) ?_
        refine qb_of (x := .ref (typed x).cells) (by simp [q_fa]) ?_
        refine qb_of (x := .str x.name) (by simp) ?_
        refine callK_just (rawConst _ _) ?_
        refine qb_of (x := .sl 4 true [(Hd.raw ⟨6, 0, x.name, x.type⟩)]) rfl ?_
        refine h2.fst (by simp; omega) fun p1' s1 h3 => ?_
        refine qb_of (ia_typed .i64 hx) ?_
        refine qb_of (x := .ref (tree x.type).cells) (by simp [q_fa]) ?_
        refine qb_of (ltr _ _) ?_
        refine qb_of (x := .sl 4 true [tree x.type]) (by simp) ?_
        refine h3.snd (by simp; omega) fun p2' s2 h4 => ?_
        refine qb_of (qinc (by omega)) ?_
        refine kk (H ++ [⟨6, 0, x.name, x.type⟩], p1', p2', s2) ⟨by simpa using h4, ?_, by simp; omega, fun _ _ _ => by simp⟩
        intro h hh
        rcases List.mem_append.1 hh with hh | hh
        · exact hH h hh
        · simp only [List.mem_singleton] at hh
          subst hh
          exact ⟨.const (tyOf_get x (List.mem_of_getElem? hx)), k', hn, by omega⟩
      · rw [h] at hc
        have hc := of_decide_eq_false hc.symm
        refine qb_of (qinc (by omega)) ?_
        refine kk (H, p1, p2, s) ⟨h2, hH, by simp only; omega, fun y hy hyt => by
          rw [List.take_add_one, hx] at hy
          simp only [Option.toList_some, List.mem_append, List.mem_singleton] at hy
          rcases hy with hy | rfl
          · exact hne y hy hyt
          · exfalso
            apply hc
            rw [hyt] at hn
            obtain ⟨e1, e2⟩ := nice_base hn
            exact ⟨e2, .inr e1⟩⟩
    refine qb_of (ia_typed .i64 hx) ?_
    refine qb_of (x := .ref (tree x.type).cells) (by simp [q_fa]) ?_
    refine qb_of (ltr _ _) ?_
    refine qb_of (x := .ref ((tree (.base s0)).cells.drop 2)) (by simp [q_fa]) ?_
    refine qb_of (x := .str s0) (by simp [Tr.base]) ?_
    refine callK_just (h_spec_l03Target hn _) ?_
    refine ⟨by simp [Tr.base], ?_⟩
    refine qb_of (x := .str s') (by simp [tree_eq, Tr.base, q_field]) ?_
    refine qb_of (x := .bool (decide (s' = s0))) (by simp) ?_
    refine cbr_dec (fun e1 => ?_) (fun e1 => ?_)
    · refine qb_of (x := .bool (decide (0 < D))) (by simp) ?_
      refine cbr_dec (fun e2 => main true (decide_eq_true ⟨e1, .inl e2⟩).symm) (fun e2 => ?_)
      refine qb_of (ia_typed .i64 hx) ?_
      refine qb_of (x := .ref (tree x.type).cells) (by simp [q_fa]) ?_
      refine qb_of (x := .ref (tree x.type).cells) (by simp [q_fa]) ?_
      refine qb_of (x := .int .i64 (x.type).kind) (by simp) ?_
      refine qb_of (x := .bool (decide (k' = 0))) (by rw [hn.kind]; by_cases h : k' = 0 <;> simp [h]) ?_
      exact main _ (by congr 1; exact propext ⟨fun h => ⟨e1, .inr h⟩, fun h => h.2.resolve_left e2⟩)
    · exact main false (decide_eq_false (fun h => e1 h.1)).symm
  · rintro ⟨H, p1, p2, s⟩ ⟨h2, hH, hl, hne⟩
    simp only at h2 hH hl hne
    refine ⟨_, _, h2.freeze _, ?_⟩
    obtain ⟨x, hxm, hxt⟩ := someConsts_bare hs0
    have hne := hne x (by rw [List.take_length]; exact hxm) hxt
    have hpos : 0 < H.length := List.length_pos_iff.2 hne
    refine qb_of (x := .int .i64 (someConsts.length : Int)) (by simp) ?_
    refine qb_of (x := .bool false) (by simp) ?_
    rw [cb_bool, br_false]
    refine qb_of (x := .int .i64 (H.length : Int)) (by simp) ?_
    refine hw.drew (h_spec_l00Src_next bs hbs M (by omega) (H.length : Int) (by omega) b w hw.src) fun q w1 hq h3 => ?_
    obtain ⟨k, rfl, k0, k1⟩ := hq
    obtain ⟨j, rfl⟩ : ∃ j : Nat, k = (j : Int) := ⟨k.toNat, by omega⟩
    have hj : j < H.length := by omega
    refine qb_of (x := .ref (Hd.raw H[j]).cells) (by simp [q_ia, hj]) ?_
    refine qb_of (x := Hd.raw H[j]) rfl ?_
    refine h3.alloc fun v18 w2 h4 => ?_
    refine h4.store2 (Hd.box _) rfl fun w3 h5 => ?_
    obtain ⟨hh, κ, hty, hκ⟩ := hH _ (List.getElem_mem hj)
    have hc := dC_le hty.le hκ
    exact typed_p4 bs b D L hs hLl hhl (M + dC D) (dS D) s0 H[j] st0 hrec v10 v18 j (H.map Hd.ty) (by simp [hj]) hh κ hty hκ hD (M + 1) w3 h5 (by omega) (dS_le hty.le hκ) _ _ _ _ _ _ _ _ _ _ _ _ _ _ _ _ _ _ _ _ _ _ _ _ _ _ _ _ _ _ _ _ _
theorem typed_p2 (bs : List UInt8) (hbs : bs.length ≤ 1000000000) (b D : Nat) (hD : D ≤ 100) (L hs : List Tr) (hL : ∀ x ∈ L, NiceT x) (hhs : ∀ x ∈ hs, NiceT x) (hLl : L.length ≤ 100) (hhl : hs.length ≤ 40) (M : Int) (hM : M + dC D ≤ 100000000) (hM0 : 0 ≤ M) (s0 : List UInt8) (hs0 : s0 = sNat ∨ s0 = sO) (st0 : St)
    (hrec : Rec bs b D L hs (M + dC D)) (v10 : Nat) (w : St) (hw : HS bs M b st0 w [] [(v10, z4T)]) (H0 : List Hd) (p1 p2 : PV) (s : St) (h2 : Two w (H0.map Hd.raw) ((H0.map Hd.ty).map tree) p1 p2 s) (hH : Heads L hs D s0 H0) (hl0 : H0.length ≤ L.length + 0)
    (x3 x14 x20 x21 x22 x41 x42 x43 x44 x45 x46 x47 : PV) :
    b_spec_l00Src_typed_p2 (.ptr b 0) (trees L) (trees hs) x3 (.int .i64 D) (.ref (tree (.base s0)).cells) (.ptr v10 0) (typeds someConsts) p1 p2 x14 x20 x21 x22 x41 x42 x43 x44 x45 x46 x47 s (Drew bs (M + dC D) b (LongQ L hs (.base s0) (dS D)) st0) := by
  unfold b_spec_l00Src_typed_p2 bx_spec_l00Src_typed_p2
  refine loop_idx (β := List Hd × PV × PV × St) hs (fun z i => [z.2.1, z.2.2.1, .int .i64 (i : Int)]) (fun z => z.2.2.2) (fun z i rest => Two w (z.1.map Hd.raw) ((z.1.map Hd.ty).map tree) z.2.1 z.2.2.1 z.2.2.2 ∧ Heads L hs D s0 z.1 ∧ z.1.length ≤ L.length + i) ?_ ?_ (H0, p1, p2, s) ⟨h2, hH, hl0⟩
  · rintro i x rest ⟨H, p1, p2, s⟩ hi hx ⟨h2, hH, hl⟩ kk
    simp only at h2 hH hl
    obtain ⟨k', s', hn⟩ := hhs x (List.mem_of_getElem? hx)
    refine qb_of (x := .int .i64 (hs.length : Int)) (by simp) ?_
    refine qb_of (x := .bool true) (by simp [hi]) ?_
    rw [cb_bool, br_true]
    refine hJ_of fun J hJ => ?_
    have main : ∀ c : Bool, c = decide (s' = s0 ∧ (0 < D ∨ k' = 0)) → J [.bool c] s := fun c hc => by
      refine hJ _ _ ?_
      show cb (.bool c) _
      refine br_of (fun h => ?_) (fun h => ?_)
      · rw [h] at hc
        obtain ⟨e1, e2⟩ := of_decide_eq_true hc.symm
        subst e1
        refine qb_of (x := .agg [.int .i64 7, .int .i64 (i : Int), .str [], .sl 0 true []]) rfl ?_
        refine qb_of (x := .sl 4 true [(Hd.raw ⟨7, (i : Int), [], x⟩)]) rfl ?_
        refine h2.fst (by simp; omega) fun p1' s1 h3 => ?_
        refine qb_of (ia_tree .i64 hx) ?_
        refine qb_of (ltr _ _) ?_
        refine qb_of (x := .sl 4 true [tree x]) (by simp) ?_
        refine h3.snd (by simp; omega) fun p2' s2 h4 => ?_
        refine qb_of (qinc (by omega)) ?_
        refine kk (H ++ [⟨7, (i : Int), [], x⟩], p1', p2', s2) ⟨by simpa using h4, ?_, by simp; omega⟩
        intro h hh
        rcases List.mem_append.1 hh with hh | hh
        · exact hH h hh
        · simp only [List.mem_singleton] at hh
          subst hh
          exact ⟨.hole hx, k', hn, by omega⟩
      · rw [h] at hc
        have hc := of_decide_eq_false hc.symm
        refine qb_of (qinc (by omega)) ?_
        refine kk (H, p1, p2, s) ⟨h2, hH, by simp only; omega⟩
    refine qb_of (ia_tree .i64 hx) ?_
    refine qb_of (ltr _ _) ?_
    refine qb_of (x := .ref ((tree (.base s0)).cells.drop 2)) (by simp [q_fa]) ?_
    refine qb_of (x := .str s0) (by simp [Tr.base]) ?_
    refine callK_just (h_spec_l03Target hn _) ?_
    refine ⟨by simp [Tr.base], ?_⟩
    refine qb_of (x := .str s') (by simp [tree_eq, Tr.base, q_field]) ?_
    refine qb_of (x := .bool (decide (s' = s0))) (by simp) ?_
    refine cbr_dec (fun e1 => ?_) (fun e1 => ?_)
    · refine qb_of (x := .bool (decide (0 < D))) (by simp) ?_
      refine cbr_dec (fun e2 => main true (decide_eq_true ⟨e1, .inl e2⟩).symm) (fun e2 => ?_)
      refine qb_of (ia_tree .i64 hx) ?_
      refine qb_of (x := .ref (tree x).cells) (by simp [q_fa]) ?_
      refine qb_of (x := .int .i64 (x).kind) (by simp) ?_
      refine qb_of (x := .bool (decide (k' = 0))) (by rw [hn.kind]; by_cases h : k' = 0 <;> simp [h]) ?_
      exact main _ (by congr 1; exact propext ⟨fun h => ⟨e1, .inr h⟩, fun h => h.2.resolve_left e2⟩)
    · exact main false (decide_eq_false (fun h => e1 h.1)).symm
  · rintro ⟨H, p1, p2, s⟩ ⟨h2, hH, hl⟩
    simp only at h2 hH hl
    refine qb_of (x := .int .i64 (hs.length : Int)) (by simp) ?_
    refine qb_of (x := .bool false) (by simp) ?_
    rw [cb_bool, br_false]
    exact typed_p3 bs hbs b D hD L hs hL hhs hLl hhl M hM hM0 s0 hs0 st0 hrec v10 w hw H p1 p2 s h2 hH hl _ _ _ _ _ _ _ _ _ _ _ _ _ _ _ _ _
theorem typed_p1 (bs : List UInt8) (hbs : bs.length ≤ 1000000000) (b D : Nat) (hD : D ≤ 100) (L hs : List Tr) (hL : ∀ x ∈ L, NiceT x) (hhs : ∀ x ∈ hs, NiceT x) (hLl : L.length ≤ 100) (hhl : hs.length ≤ 40) (M : Int) (hM : M + dC D ≤ 100000000) (hM0 : 0 ≤ M) (s0 : List UInt8) (hs0 : s0 = sNat ∨ s0 = sO) (st0 : St)
    (hrec : Rec bs b D L hs (M + dC D)) (v10 : Nat) (w : St) (hw : HS bs M b st0 w [] [(v10, z4T)]) (H0 : List Hd) (p1 p2 : PV) (s : St) (h2 : Two w (H0.map Hd.raw) ((H0.map Hd.ty).map tree) p1 p2 s) (hH : Heads L hs D s0 H0) (hl0 : H0.length ≤ 0)
    (x3 x20 x21 x22 x41 x42 x43 : PV) :
    b_spec_l00Src_typed_p1 (.ptr b 0) (trees L) (trees hs) x3 (.int .i64 D) (.ref (tree (.base s0)).cells) (.ptr v10 0) (typeds someConsts) p1 p2 x20 x21 x22 x41 x42 x43 s (Drew bs (M + dC D) b (LongQ L hs (.base s0) (dS D)) st0) := by
  unfold b_spec_l00Src_typed_p1 bx_spec_l00Src_typed_p1
  refine loop_idx (β := List Hd × PV × PV × St) L (fun z i => [z.2.1, z.2.2.1, .int .i64 (i : Int)]) (fun z => z.2.2.2) (fun z i rest => Two w (z.1.map Hd.raw) ((z.1.map Hd.ty).map tree) z.2.1 z.2.2.1 z.2.2.2 ∧ Heads L hs D s0 z.1 ∧ z.1.length ≤ i) ?_ ?_ (H0, p1, p2, s) ⟨h2, hH, hl0⟩
  · rintro i x rest ⟨H, p1, p2, s⟩ hi hx ⟨h2, hH, hl⟩ kk
    simp only at h2 hH hl
    obtain ⟨k', s', hn⟩ := hL x (List.mem_of_getElem? hx)
    refine qb_of (x := .int .i64 (L.length : Int)) (by simp) ?_
    refine qb_of (x := .bool true) (by simp [hi]) ?_
    rw [cb_bool, br_true]
    refine hJ_of fun J hJ => ?_
    have main : ∀ c : Bool, c = decide (s' = s0 ∧ (0 < D ∨ k' = 0)) → J [.bool c] s := fun c hc => by
      refine hJ _ _ ?_
      show cb (.bool c) _
      refine br_of (fun h => ?_) (fun h => ?_)
      · rw [h] at hc
        obtain ⟨e1, e2⟩ := of_decide_eq_true hc.symm
        subst e1
        refine qb_of (x := .int .i64 (L.length : Int)) (by simp) ?_
        refine qb_of (qdec (by omega)) ?_
        refine qb_of (x := .int .i64 ((L.length - 1 - i : Nat) : Int)) (by simp; rw [wrap64 (by omega) (by omega)]; omega) ?_
        refine callK_just (rawVar _ _) ?_
        refine qb_of (x := .sl 4 true [(Hd.raw ⟨5, ((L.length - 1 - i : Nat) : Int), [], x⟩)]) rfl ?_
        refine h2.fst (by simp; omega) fun p1' s1 h3 => ?_
        refine qb_of (ia_tree .i64 hx) ?_
        refine qb_of (ltr _ _) ?_
        refine qb_of (x := .sl 4 true [tree x]) (by simp) ?_
        refine h3.snd (by simp; omega) fun p2' s2 h4 => ?_
        refine qb_of (qinc (by omega)) ?_
        refine kk (H ++ [⟨5, ((L.length - 1 - i : Nat) : Int), [], x⟩], p1', p2', s2) ⟨by simpa using h4, ?_, by simp; omega⟩
        intro h hh
        rcases List.mem_append.1 hh with hh | hh
        · exact hH h hh
        · simp only [List.mem_singleton] at hh
          subst hh
          exact ⟨.var (by rw [List.getElem?_reverse (by omega), show L.length - 1 - (L.length - 1 - i) = i by omega]; exact hx), k', hn, by omega⟩
      · rw [h] at hc
        have hc := of_decide_eq_false hc.symm
        refine qb_of (qinc (by omega)) ?_
        refine kk (H, p1, p2, s) ⟨h2, hH, by simp only; omega⟩
    refine qb_of (ia_tree .i64 hx) ?_
    refine qb_of (ltr _ _) ?_
    refine qb_of (x := .ref ((tree (.base s0)).cells.drop 2)) (by simp [q_fa]) ?_
    refine qb_of (x := .str s0) (by simp [Tr.base]) ?_
    refine callK_just (h_spec_l03Target hn _) ?_
    refine ⟨by simp [Tr.base], ?_⟩
    refine qb_of (x := .str s') (by simp [tree_eq, Tr.base, q_field]) ?_
    refine qb_of (x := .bool (decide (s' = s0))) (by simp) ?_
    refine cbr_dec (fun e1 => ?_) (fun e1 => ?_)
    · refine qb_of (x := .bool (decide (0 < D))) (by simp) ?_
      refine cbr_dec (fun e2 => main true (decide_eq_true ⟨e1, .inl e2⟩).symm) (fun e2 => ?_)
      refine qb_of (ia_tree .i64 hx) ?_
      refine qb_of (x := .ref (tree x).cells) (by simp [q_fa]) ?_
      refine qb_of (x := .int .i64 (x).kind) (by simp) ?_
      refine qb_of (x := .bool (decide (k' = 0))) (by rw [hn.kind]; by_cases h : k' = 0 <;> simp [h]) ?_
      exact main _ (by congr 1; exact propext ⟨fun h => ⟨e1, .inr h⟩, fun h => h.2.resolve_left e2⟩)
    · exact main false (decide_eq_false (fun h => e1 h.1)).symm
  · rintro ⟨H, p1, p2, s⟩ ⟨h2, hH, hl⟩
    simp only at h2 hH hl
    refine qb_of (x := .int .i64 (L.length : Int)) (by simp) ?_
    refine qb_of (x := .bool false) (by simp) ?_
    rw [cb_bool, br_false]
    exact typed_p2 bs hbs b D hD L hs hL hhs hLl hhl M hM hM0 s0 hs0 st0 hrec v10 w hw H p1 p2 s h2 hH hl _ _ _ _ _ _ _ _ _ _ _ _
end Go.H.Tryz
/- Contracts: drawn long terms. -/
set_option linter.unusedVariables false
set_option linter.unusedSimpArgs false
namespace Go.H.Tryz
open Go Go.H

theorem src_pos {bs : List UInt8} {M : Int} {b : Nat} {st : St} (h : Src bs M b st) : 0 ≤ M := by
  obtain ⟨a, s, _, h1, h2, _⟩ := h.is
  omega
theorem h_spec_l00Src_typed (bs : List UInt8) (hbs : bs.length ≤ 1000000000) (b : Nat) (hs : List Tr) (hhs : ∀ x ∈ hs, NiceT x) (hhl : hs.length ≤ 40) : ∀ (N D k : Nat), 5 * D + k ≤ N → ∀ (L : List Tr) (a : Tr) (s0 : List UInt8) (M : Int) (st : St), Nice k s0 a → (∀ x ∈ L, NiceT x) → L.length + k + 4 * D ≤ 100 → D ≤ 40 → M + dC D ≤ 100000000 → Src bs M b st →
    HCalls prog n_spec_l00Src_typed [.ptr b 0, trees L, trees hs, tree a, .int .i64 D] st (Drew bs (M + dC D) b (LongQ L hs a (dS D + k)) st) := by
  intro N
  induction N using Nat.strongRecOn with
  | _ N ih =>
  intro D k hN L a s0 M st ha hL hLl hD hM hsrc
  have hM0 := src_pos hsrc
  apply c_spec_l00Src_typed
  unfold b_spec_l00Src_typed bx_spec_l00Src_typed
  refine e_box_ref (tree_isJunk _) ?_
  refine (HS.start hsrc).alloc fun v10 w1 h1 => ?_
  refine qb_of (x := .ref (tree a).cells) (by simp [q_fa]) ?_
  refine qb_of (x := .int .i64 a.kind) (by simp) ?_
  refine qb_of (x := .bool (decide (a.kind = 10))) (by simp) ?_
  refine cbr_dec (fun h10 => ?_) (fun h10 => ?_)
  · obtain ⟨m, rfl⟩ : ∃ m, k = m + 1 := by
      cases k with
      | zero => rw [ha.kind, if_pos rfl] at h10; omega
      | succ m => exact ⟨m, rfl⟩
    obtain ⟨j, s', x, y, rfl, hx, hy⟩ := ha.succ
    have k3 : ∀ s : St, q_load s false 1 (.ref ((tree (Tr.arrow x y)).cells.drop 3)) = some (.sl 4 false [tree x, tree y]) := fun s => by simp [Tr.arrow, tree_cells, Tr.kids, takeV]
    have f3 : q_fa 3 (.ref (tree (Tr.arrow x y)).cells) = some (.ref ((tree (Tr.arrow x y)).cells.drop 3)) := by simp [q_fa]
    refine qb_of (x := .sl 4 true []) rfl ?_
    refine qb_of f3 ?_
    refine qb_of (k3 _) ?_
    refine qb_of (x := .ref (tree x).cells) rfl ?_
    refine qb_of (ltr _ _) ?_
    refine qb_of (x := .sl 4 true [tree x]) (by simp) ?_
    refine qb_of f3 ?_
    refine qb_of (k3 _) ?_
    refine qb_of (x := .ref (tree y).cells) rfl ?_
    refine qb_of (ltr _ _) ?_
    refine (Grow.nil _ 4 4).append (ys := L.map tree) (elems_sl _ _ _ _) (by simp; omega) fun p1 s1 g1 => ?_
    refine ⟨ltr _ _, k3 _, ltr _ _, k3 _, ?_⟩
    refine g1.append (ys := [tree x]) (elems_sl _ _ _ _) (by simp; omega) fun p2 s2 g2 => ?_
    refine ⟨ltr _ _, k3 _, ?_⟩
    refine callK_conv (us' := [.ptr b 0, trees (L ++ [x]), trees hs, tree y, .int .i64 D]) (st' := w1) (Conv.cons (Conv.sub g2.sub) (Conv.cons (by simpa using g2.freeze) (Conv.sub g2.sub))) ?_
    refine h1.drew (ih (5 * D + m) (by omega) D m (by omega) (L ++ [x]) y s0 M w1 hy (fun z hz => by
      rcases List.mem_append.1 hz with hz | hz
      · exact hL z hz
      · simp only [List.mem_singleton] at hz; subst hz; exact ⟨_, _, hx⟩) (by simp; omega) hD hM h1.src) fun q w2 hq h3 => ?_
    obtain ⟨t, rfl, ht, hts, htt⟩ := hq
    refine callK_just (h_spec_l01Lam t _) ?_
    refine h3.store (Box.tree _) rfl fun w3 h4 => ?_
    refine qb_of (h4.top (Box.tree _)) ?_
    refine h4.fin ⟨_, rfl, ?_, ?_, term_lam' htt⟩
    · rw [List.reverse_append] at ht
      exact .lam ht
    · rw [size_lam]; omega
  · have hk0 : k = 0 := by
      cases k with
      | zero => rfl
      | succ m => rw [ha.kind, if_neg (by omega)] at h10; exact absurd rfl h10
    subst hk0
    have hb := ha.zero
    subst hb
    refine callK_just (h_spec_l03Some _) ?_
    refine qb_of (x := .sl 4 true []) rfl ?_
    refine qb_of (x := .sl 4 true []) rfl ?_
    refine typed_p1 bs hbs b D (by omega) L hs hL hhs (by omega) hhl M hM hM0 s0 ha.name st (fun hD0 x j s' hx M' st' hM' hsrc' => ?_) v10 w1 h1 [] _ _ _ (Two.start _ _ _) (fun h hh => by cases hh) (by simp) _ _ _ _ _ _ _
    have := ih (5 * (D - 1) + j) (by have := hx.le; omega) (D - 1) j (Nat.le_refl _) L x s' M' st' hx hL (by have := hx.le; omega) (by omega) (by omega) hsrc'
    rw [show (((D - 1 : Nat) : Int)) = (D : Int) - 1 by omega] at this
    refine this.mono fun r s h => ?_
    obtain ⟨p, o, h1, ⟨t, h2, h3, h4, h6⟩, h5⟩ := h
    exact ⟨p, o, h1, ⟨t, h2, h3, by have := hx.le; omega, h6⟩, h5⟩
end Go.H.Tryz
/- Contracts: small drawn long terms; what is put for what. -/
set_option linter.unusedVariables false
set_option linter.unusedSimpArgs false
namespace Go.H.Tryz
open Go Go.H

def lC : Nat → Nat
  | 0 => 1
  | d + 1 => dC (d + 1) + lC d
/-- A drawn long term that is not too big. -/
def LittleQ (L : List Tr) (a : Tr) (p : PV) : Prop := ∃ t, p = tree t ∧ LT someConsts [] L.reverse t a ∧ t.size ≤ 148 ∧ t.isTerm false = true
theorem h_spec_l00Src_little (bs : List UInt8) (hbs : bs.length ≤ 1000000000) (b : Nat) (L : List Tr) (a : Tr) (k : Nat) (s0 : List UInt8) (ha : Nice k s0 a) (hL : ∀ x ∈ L, NiceT x) (hLl : L.length ≤ 40) (D : Nat) (hD : D ≤ 8) (M : Int) (hM : M + lC D ≤ 100000000) (st : St) (hsrc : Src bs M b st) :
    HCalls prog n_spec_l00Src_little [.ptr b 0, trees L, tree a, .int .i64 D] st (Drew bs (M + lC D) b (LittleQ L a) st) := by
  have hk := ha.le
  apply c_spec_l00Src_little
  unfold b_spec_l00Src_little
  refine e_box_ref (tree_isJunk _) ?_
  refine (HS.start hsrc).alloc fun v8 w1 h1 => ?_
  refine hFix_nat (fun n ls s => ls = [.int .i64 n] ∧ n ≤ 8 ∧ ∃ M' Ls, HS bs M' b st s Ls [(v8, z4T)] ∧ M' + lC n ≤ M + lC D) ?_ D _ _ ⟨rfl, hD, M, [], h1, by omega⟩
  clear h1
  rintro n _ s ⟨rfl, hn8, M', Ls, h1, hM'⟩ ih
  have hM0 := src_pos h1.src
  have hdl : dC n ≤ lC n := by cases n <;> simp only [lC, dC] <;> omega
  refine qb_of (ltr _ _) ?_
  refine callK_conv (us' := [.ptr b 0, trees L, trees [], tree a, .int .i64 n]) (st' := s) (Conv.cons (Conv.refl _ _) (Conv.cons (Conv.refl _ _) (Conv.cons (Conv.sl_to s 0 4 true [] (.inr rfl)) (Conv.refl _ _)))) ?_
  refine h1.drew (h_spec_l00Src_typed bs hbs b [] (by simp) (by simp) (5 * n + k) n k (Nat.le_refl _) L a s0 M' s ha hL (by omega) (by omega) (by omega) h1.src) fun q w2 hq h2 => ?_
  obtain ⟨t, rfl, ht, hts, htt⟩ := hq
  refine h2.alloc fun v9 w3 h3 => ?_
  refine h3.store2 (Box.tree t) rfl fun w4 h4 => ?_
  refine qb_of (h4.top (Box.tree t)) ?_
  refine callK_just (h_spec_l01Count t 148 (by omega) _) ?_
  have fin : t.size ≤ 148 → qb (q_load w4 true 4 (.ptr v9 0)) fun v22 => e_store w4 4 (.ptr v8 0) v22 fun st' => qb (q_load st' true 4 (.ptr v8 0)) fun r => retR (Drew bs (M + lC D) b (LittleQ L a) st) r st' := fun hs => by
    refine qb_of (h4.top (Box.tree t)) ?_
    refine h4.store (Box.tree t) rfl fun w5 h5 => ?_
    refine qb_of (h5.top (Box.tree t)) ?_
    exact (h5.mono (show M' + dC n ≤ M + lC D by omega)).fin ⟨t, rfl, ht, hs, htt⟩
  by_cases hs : t.size ≤ 148
  · have e : countT t 148 = 148 - t.size := by unfold countT; rw [if_pos (by omega)]
    rw [e]
    refine qb_of (x := .bool true) (by simp; omega) ?_
    rw [cb_bool, br_true]
    exact fin hs
  · have e : countT t 148 = -1 := by unfold countT; rw [if_neg (by omega)]
    rw [e]
    refine qb_of (x := .bool false) (by simp) ?_
    rw [cb_bool, br_false]
    cases n with
    | zero => simp only [dS] at hts; omega
    | succ m =>
      refine qb_of (x := .bool false) (by simp; omega) ?_
      rw [cb_bool, br_false]
      refine qb_of (x := .int .i64 (m : Int)) (by simp; rw [wrap64 (by omega) (by omega)]) ?_
      exact ih m _ _ (by omega) ⟨rfl, by omega, M' + dC (m + 1), _, h4, by simp only [lC] at hM'; omega⟩
def ctx0 : List Tr := [.base sNat, .arrow (.base sNat) (.base sO)]
theorem ctx0_nice : ∀ x ∈ ctx0, NiceT x := by
  have n : Nice 0 sNat (.base sNat) := .base (.inl rfl)
  have o : Nice 0 sO (.base sO) := .base (.inr rfl)
  intro x hx
  simp only [ctx0, List.mem_cons, List.not_mem_nil, or_false] at hx
  rcases hx with rfl | rfl
  · exact ⟨_, _, n⟩
  · exact ⟨_, _, .arr n o (by omega)⟩
/-- What is drawn: terms and their types. -/
def PutHave (p : PV) : Prop := ∃ m n t a b c : Tr, p = .tup [trees ctx0, trees [m, n, t], trees [a, b, c]] ∧ drawnS 2 a ∧ drawnS 2 b ∧ drawnS 2 c ∧ LT someConsts [] (b :: ctx0.reverse) m a ∧ LT someConsts [] (a :: b :: ctx0.reverse) t c ∧
  m.size ≤ 148 ∧ t.size ≤ 148 ∧ m.isTerm false = true ∧ t.isTerm false = true
theorem h_spec_PutOf (bs : List UInt8) (hl : bs.length ≤ 1000000000) (st : St) : HCalls prog n_spec_PutOf [bytesP bs] st (Gives st PutHave) := by
  apply c_spec_PutOf
  unfold b_spec_PutOf
  have hlc : ∀ d : Nat, d ≤ 3 → lC d ≤ 112 := fun d hd => by
    match d, hd with
    | 0, _ => decide
    | 1, _ => decide
    | 2, _ => decide
    | 3, _ => decide
  have hdk : ∀ d : Nat, d ≤ 2 → drawnK d ≤ 160 := fun d hd => by
    match d, hd with
    | 0, _ => decide
    | 1, _ => decide
    | 2, _ => decide
  refine HS.begun (Held.start st) (h_spec_l00Source bs hl st) fun b w0 hb h0 => ?_
  refine callK_just (h_spec_l01Base _ _) ?_
  refine callK_just (h_spec_l01Base _ _) ?_
  refine callK_just (h_spec_l01Base _ _) ?_
  refine callK_just (h_spec_l01Arrow _ _ _) ?_
  refine qb_of (x := .sl 4 true [tree (.base sNat), tree (.arrow (.base sNat) (.base sO))]) (by simp [sNat, sO]) ?_
  have cv0 : ∀ s : St, Conv [.sl 4 true [tree (.base sNat), tree (.arrow (.base sNat) (.base sO))]] s [trees ctx0] s := fun s => Conv.sl_to s 4 4 true _ (.inl rfl)
  refine h0.drew (h_spec_l00Src_next bs hl 0 (by omega) 2 (by decide) b w0 h0.src) fun p w1 hp h1 => ?_
  obtain ⟨k, rfl, k0, k1⟩ := hp
  obtain ⟨d1, rfl⟩ : ∃ j : Nat, k = (j : Int) := ⟨k.toNat, by omega⟩
  refine qb_of (x := .int .i64 ((1 + d1 : Nat) : Int)) (by simp; rw [wrap64 (by omega) (by omega)]) ?_
  have q1 := hdk (1 + d1) (by omega)
  refine h1.drew (h_spec_l00Src_simple bs hl b (1 + d1) _ w1 (by omega) (by omega) h1.src) fun p w2 hp h2 => ?_
  obtain ⟨a, rfl, ha⟩ := hp
  refine h2.alloc fun v7 w3 h3 => ?_
  refine h3.store (Box.tree a) rfl fun w4 h4 => ?_
  refine h4.drew (h_spec_l00Src_next bs hl _ (by omega) 2 (by decide) b w4 h4.src) fun p w5 hp h5 => ?_
  obtain ⟨k, rfl, k0, k1⟩ := hp
  obtain ⟨d2, rfl⟩ : ∃ j : Nat, k = (j : Int) := ⟨k.toNat, by omega⟩
  refine qb_of (x := .int .i64 ((1 + d2 : Nat) : Int)) (by simp; rw [wrap64 (by omega) (by omega)]) ?_
  have q2 := hdk (1 + d2) (by omega)
  refine h5.drew (h_spec_l00Src_simple bs hl b (1 + d2) _ w5 (by omega) (by omega) h5.src) fun p w6 hp h6 => ?_
  obtain ⟨B, rfl, hB⟩ := hp
  refine h6.alloc fun v8 w7 h7 => ?_
  refine h7.store (Box.tree B) rfl fun w8 h8 => ?_
  have q3 := hdk 1 (by omega)
  refine h8.drew (h_spec_l00Src_simple bs hl b 1 _ w8 (by omega) (by omega) h8.src) fun p w9 hp h9 => ?_
  obtain ⟨c, rfl, hc⟩ := hp
  refine h9.alloc fun v9 w10 h10 => ?_
  refine h10.store (Box.tree c) rfl fun w11 h11 => ?_
  have up : ∀ (d : Nat) (x : Tr), d ≤ 2 → drawnS d x → drawnS 2 x := fun d x hd hx => by
    match d, hd with
    | 0, _ => exact drawnS_mono (drawnS_mono hx)
    | 1, _ => exact drawnS_mono hx
    | 2, _ => exact hx
  have ha2 := up _ _ (by omega) ha
  have hB2 := up _ _ (by omega) hB
  have hc2 := up _ _ (by omega) hc
  obtain ⟨ka, sa, _, na⟩ := Nice.drawn 2 a (by omega) ha2
  obtain ⟨kb, sb, _, nb⟩ := Nice.drawn 2 B (by omega) hB2
  obtain ⟨kc, sc, _, nc⟩ := Nice.drawn 2 c (by omega) hc2
  refine qb_of (h11.load (Box.tree B) (v := v8) (by simp)) ?_
  refine callK_conv (us' := [trees ctx0, tree B]) (st' := w11) (Conv.cons (cv0 _) (Conv.refl _ _)) ?_
  refine callK_just (h_spec_l04More ctx0 B (by simp [ctx0]) _) ?_
  have niceB : ∀ x ∈ ctx0 ++ [B], NiceT x := fun x hx => by
    rcases List.mem_append.1 hx with hx | hx
    · exact ctx0_nice x hx
    · simp only [List.mem_singleton] at hx; subst hx; exact ⟨_, _, nb⟩
  have niceBA : ∀ x ∈ ctx0 ++ [B] ++ [a], NiceT x := fun x hx => by
    rcases List.mem_append.1 hx with hx | hx
    · exact niceB x hx
    · simp only [List.mem_singleton] at hx; subst hx; exact ⟨_, _, na⟩
  generalize hMM : (0 + 1 + drawnK (1 + d1) + 1 + drawnK (1 + d2) + drawnK 1 : Int) = MM at h11
  have hMb : MM ≤ 1000 := by omega
  clear hMM
  -- the third term
  refine hJ_of fun J hJ => ?_
  have after : ∀ (v11 : Nat) (m : Tr) (w : St) (M : Int), M ≤ 2000 → LT someConsts [] (B :: ctx0.reverse) m a → m.size ≤ 148 → m.isTerm false = true → HS bs M b st w [(v11, tree m), (v9, tree c), (v8, tree B), (v7, tree a)] [] → J [.ptr v11 0] w := fun v11 m w M hM hm hms hmt h12 => by
    refine hJ _ _ ?_
    refine hJ_of fun J1 hJ1 => ?_
    have after1 : ∀ (v12 : Nat) (n : Tr) (w : St) (M : Int), M ≤ 3000 → HS bs M b st w [(v12, tree n), (v11, tree m), (v9, tree c), (v8, tree B), (v7, tree a)] [] → J1 [.ptr v12 0] w := fun v12 n w M hM h13 => by
      refine hJ1 _ _ ?_
      refine hJ_of fun J2 hJ2 => ?_
      have after2 : ∀ (v13 : Nat) (t : Tr) (w : St) (M : Int), LT someConsts [] (a :: B :: ctx0.reverse) t c → t.size ≤ 148 → t.isTerm false = true → HS bs M b st w [(v13, tree t), (v12, tree n), (v11, tree m), (v9, tree c), (v8, tree B), (v7, tree a)] [] → J2 [.ptr v13 0] w := fun v13 t w M ht hts htt h14 => by
        refine hJ2 _ _ ?_
        refine qb_of (h14.load (Box.tree m) (v := v11) (by simp)) ?_
        refine qb_of (h14.load (Box.tree n) (v := v12) (by simp)) ?_
        refine qb_of (h14.load (Box.tree t) (v := v13) (by simp)) ?_
        refine qb_of (x := .sl 4 true [tree m, tree n, tree t]) (by simp) ?_
        refine qb_of (h14.load (Box.tree a) (v := v7) (by simp)) ?_
        refine qb_of (h14.load (Box.tree B) (v := v8) (by simp)) ?_
        refine qb_of (h14.load (Box.tree c) (v := v9) (by simp)) ?_
        refine qb_of (x := .sl 4 true [tree a, tree B, tree c]) (by simp) ?_
        refine retR_via (p' := .tup [trees ctx0, trees [m, n, t], trees [a, B, c]]) (s' := w) (Conv.tup (Conv.cons (cv0 _) (Conv.cons (Conv.sl_to w 4 4 true [tree m, tree n, tree t] (.inl rfl)) (Conv.cons (Conv.sl_to w 4 4 true [tree a, tree B, tree c] (.inl rfl)) (Conv.refl _ _))))) ?_
        exact retR_sub (h14.sub hb) ⟨rfl, _, rfl, m, n, t, a, B, c, rfl, ha2, hB2, hc2, hm, ht, hms, hts, hmt, htt⟩
      refine qb_of (h13.load (Box.tree a) (v := v7) (by simp)) ?_
      refine qb_of (h13.load (Box.tree c) (v := v9) (by simp)) ?_
      have hmore := h_spec_l04More (ctx0 ++ [B]) a (by simp [ctx0])
      have draw3 : ∀ (w : St) (M : Int) (d : Nat), M ≤ 3500 → d ≤ 3 → Src bs M b w → HCalls prog n_spec_l00Src_little [.ptr b 0, trees (ctx0 ++ [B] ++ [a]), tree c, .int .i64 d] w (Drew bs (M + lC d) b (LittleQ (ctx0 ++ [B] ++ [a]) c) w) := fun w M d hM hd hs =>
        h_spec_l00Src_little bs hl b (ctx0 ++ [B] ++ [a]) c kc sc nc niceBA (by simp [ctx0]) d (by omega) M (by have := hlc d hd; omega) w hs
      have unq : ∀ {p : PV}, LittleQ (ctx0 ++ [B] ++ [a]) c p → ∃ t, p = tree t ∧ LT someConsts [] (a :: B :: ctx0.reverse) t c ∧ t.size ≤ 148 ∧ t.isTerm false = true := fun h => by
        obtain ⟨t, h1, h2, h3⟩ := h
        exact ⟨t, h1, by simpa using h2, h3⟩
      refine ⟨?_, ?_⟩
      · refine callK_just (hmore _) ?_
        refine ⟨h13.load (Box.tree c) (by simp), ?_, ?_⟩
        · refine h13.drew (h_spec_l00Src_next bs hl _ (by omega) 3 (by decide) b w h13.src) fun p w14 hp h14 => ?_
          obtain ⟨k, rfl, k0, k1⟩ := hp
          obtain ⟨d, rfl⟩ : ∃ j : Nat, k = (j : Int) := ⟨k.toNat, by omega⟩
          refine ⟨h14.load (Box.tree c) (by simp), ?_⟩
          refine qb_of (x := .int .i64 ((1 + d : Nat) : Int)) (by simp; rw [wrap64 (by omega) (by omega)]) ?_
          refine ⟨?_, ?_⟩
          · refine h14.drew (draw3 w14 _ (1 + d) (by omega) (by omega) h14.src) fun p w15 hp h15 => ?_
            obtain ⟨t, rfl, ht, hts, htt⟩ := unq hp
            refine h15.alloc fun v13 w16 h16 => ?_
            refine ⟨h16.load (Box.tree c) (by simp), h16.load (Box.tree a) (by simp), ?_⟩
            refine h16.store (Box.tree t) rfl fun w17 h17 => ?_
            exact after2 v13 t w17 _ ht hts htt h17
          · refine h14.alloc fun v13 w15 h15 => ?_
            refine ⟨h15.load (Box.tree c) (by simp), h15.load (Box.tree a) (by simp), ?_⟩
            refine h15.drew (draw3 w15 _ (1 + d) (by omega) (by omega) h15.src) fun p w16 hp h16 => ?_
            obtain ⟨t, rfl, ht, hts, htt⟩ := unq hp
            refine h16.store (Box.tree t) rfl fun w17 h17 => ?_
            exact after2 v13 t w17 _ ht hts htt h17
        · refine h13.alloc fun v13 w14 h14 => ?_
          refine ⟨h14.load (Box.tree c) (by simp), h14.load (Box.tree a) (by simp), ?_⟩
          refine h14.drew (h_spec_l00Src_next bs hl _ (by omega) 3 (by decide) b w14 h14.src) fun p w15 hp h15 => ?_
          obtain ⟨k, rfl, k0, k1⟩ := hp
          obtain ⟨d, rfl⟩ : ∃ j : Nat, k = (j : Int) := ⟨k.toNat, by omega⟩
          refine ⟨h15.load (Box.tree c) (by simp), ?_⟩
          refine qb_of (x := .int .i64 ((1 + d : Nat) : Int)) (by simp; rw [wrap64 (by omega) (by omega)]) ?_
          refine h15.drew (draw3 w15 _ (1 + d) (by omega) (by omega) h15.src) fun p w16 hp h16 => ?_
          obtain ⟨t, rfl, ht, hts, htt⟩ := unq hp
          refine h16.store (Box.tree t) rfl fun w17 h17 => ?_
          exact after2 v13 t w17 _ ht hts htt h17
      · refine h13.alloc fun v13 w14 h14 => ?_
        refine ⟨h14.load (Box.tree c) (by simp), h14.load (Box.tree a) (by simp), ?_⟩
        refine callK_just (hmore _) ?_
        refine ⟨h14.load (Box.tree c) (by simp), ?_⟩
        refine h14.drew (h_spec_l00Src_next bs hl _ (by omega) 3 (by decide) b w14 h14.src) fun p w15 hp h15 => ?_
        obtain ⟨k, rfl, k0, k1⟩ := hp
        obtain ⟨d, rfl⟩ : ∃ j : Nat, k = (j : Int) := ⟨k.toNat, by omega⟩
        refine ⟨h15.load (Box.tree c) (by simp), ?_⟩
        refine qb_of (x := .int .i64 ((1 + d : Nat) : Int)) (by simp; rw [wrap64 (by omega) (by omega)]) ?_
        refine h15.drew (draw3 w15 _ (1 + d) (by omega) (by omega) h15.src) fun p w16 hp h16 => ?_
        obtain ⟨t, rfl, ht, hts, htt⟩ := unq hp
        refine h16.store (Box.tree t) rfl fun w17 h17 => ?_
        exact after2 v13 t w17 _ ht hts htt h17
    -- the second term
    refine qb_of (h12.load (Box.tree B) (v := v8) (by simp)) ?_
    have draw2 : ∀ (w : St) (M : Int) (d : Nat), M ≤ 2500 → d ≤ 3 → Src bs M b w → ∀ {K Kp : PV → St → Prop}, callK prog n_spec_l00Src_little [.ptr b 0, trees ctx0, tree B, .int .i64 d] w K Kp → callK prog n_spec_l00Src_little [.ptr b 0, .sl 4 true [tree (.base sNat), tree (.arrow (.base sNat) (.base sO))], tree B, .int .i64 d] w K Kp := fun w M d hM hd hs K Kp h =>
      callK_conv (us' := [.ptr b 0, trees ctx0, tree B, .int .i64 d]) (st' := w) (Conv.cons (Conv.refl _ _) (Conv.cons (cv0 _) (Conv.refl _ _))) h
    have lit2 : ∀ (w : St) (M : Int) (d : Nat), M ≤ 2500 → d ≤ 3 → Src bs M b w → HCalls prog n_spec_l00Src_little [.ptr b 0, trees ctx0, tree B, .int .i64 d] w (Drew bs (M + lC d) b (LittleQ ctx0 B) w) := fun w M d hM hd hs =>
      h_spec_l00Src_little bs hl b ctx0 B kb sb nb ctx0_nice (by simp [ctx0]) d (by omega) M (by have := hlc d hd; omega) w hs
    refine ⟨?_, ?_⟩
    · refine h12.drew (h_spec_l00Src_next bs hl _ (by omega) 2 (by decide) b w h12.src) fun p w13 hp h13 => ?_
      obtain ⟨k, rfl, k0, k1⟩ := hp
      obtain ⟨d, rfl⟩ : ∃ j : Nat, k = (j : Int) := ⟨k.toNat, by omega⟩
      refine ⟨h13.load (Box.tree B) (by simp), ?_⟩
      refine qb_of (x := .int .i64 ((1 + d : Nat) : Int)) (by simp; rw [wrap64 (by omega) (by omega)]) ?_
      have hld := hlc (1 + d) (by omega)
      refine ⟨?_, ?_⟩
      · refine draw2 w13 _ (1 + d) (by omega) (by omega) h13.src ?_
        refine h13.drew (lit2 w13 _ (1 + d) (by omega) (by omega) h13.src) fun p w14 hp h14 => ?_
        obtain ⟨n, rfl, _⟩ := hp
        refine h14.alloc fun v12 w15 h15 => ?_
        refine ⟨h15.load (Box.tree B) (by simp), ?_⟩
        refine h15.store (Box.tree n) rfl fun w16 h16 => ?_
        exact after1 v12 n w16 _ (by omega) h16
      · refine h13.alloc fun v12 w14 h14 => ?_
        refine ⟨h14.load (Box.tree B) (by simp), ?_⟩
        refine draw2 w14 _ (1 + d) (by omega) (by omega) h14.src ?_
        refine h14.drew (lit2 w14 _ (1 + d) (by omega) (by omega) h14.src) fun p w15 hp h15 => ?_
        obtain ⟨n, rfl, _⟩ := hp
        refine h15.store (Box.tree n) rfl fun w16 h16 => ?_
        exact after1 v12 n w16 _ (by omega) h16
    · refine h12.alloc fun v12 w13 h13 => ?_
      refine ⟨h13.load (Box.tree B) (by simp), ?_⟩
      refine h13.drew (h_spec_l00Src_next bs hl _ (by omega) 2 (by decide) b w13 h13.src) fun p w14 hp h14 => ?_
      obtain ⟨k, rfl, k0, k1⟩ := hp
      obtain ⟨d, rfl⟩ : ∃ j : Nat, k = (j : Int) := ⟨k.toNat, by omega⟩
      refine ⟨h14.load (Box.tree B) (by simp), ?_⟩
      refine qb_of (x := .int .i64 ((1 + d : Nat) : Int)) (by simp; rw [wrap64 (by omega) (by omega)]) ?_
      have hld := hlc (1 + d) (by omega)
      refine draw2 w14 _ (1 + d) (by omega) (by omega) h14.src ?_
      refine h14.drew (lit2 w14 _ (1 + d) (by omega) (by omega) h14.src) fun p w15 hp h15 => ?_
      obtain ⟨n, rfl, _⟩ := hp
      refine h15.store (Box.tree n) rfl fun w16 h16 => ?_
      exact after1 v12 n w16 _ (by omega) h16
  -- the first term
  refine qb_of (h11.load (Box.tree a) (v := v7) (by simp)) ?_
  have lit1 : ∀ (w : St) (M : Int) (d : Nat), M ≤ 1500 → d ≤ 3 → Src bs M b w → HCalls prog n_spec_l00Src_little [.ptr b 0, trees (ctx0 ++ [B]), tree a, .int .i64 d] w (Drew bs (M + lC d) b (LittleQ (ctx0 ++ [B]) a) w) := fun w M d hM hd hs =>
    h_spec_l00Src_little bs hl b (ctx0 ++ [B]) a ka sa na niceB (by simp [ctx0]) d (by omega) M (by have := hlc d hd; omega) w hs
  have unq : ∀ {p : PV}, LittleQ (ctx0 ++ [B]) a p → ∃ t, p = tree t ∧ LT someConsts [] (B :: ctx0.reverse) t a ∧ t.size ≤ 148 ∧ t.isTerm false = true := fun h => by
    obtain ⟨t, h1, h2, h3⟩ := h
    exact ⟨t, h1, by simpa using h2, h3⟩
  refine ⟨?_, ?_⟩
  · refine h11.drew (h_spec_l00Src_next bs hl _ (by omega) 2 (by decide) b w11 h11.src) fun p w13 hp h13 => ?_
    obtain ⟨k, rfl, k0, k1⟩ := hp
    obtain ⟨d, rfl⟩ : ∃ j : Nat, k = (j : Int) := ⟨k.toNat, by omega⟩
    refine ⟨h13.load (Box.tree a) (by simp), ?_⟩
    refine qb_of (x := .int .i64 ((1 + d : Nat) : Int)) (by simp; rw [wrap64 (by omega) (by omega)]) ?_
    have hld := hlc (1 + d) (by omega)
    refine ⟨?_, ?_⟩
    · refine h13.drew (lit1 w13 _ (1 + d) (by omega) (by omega) h13.src) fun p w14 hp h14 => ?_
      obtain ⟨m, rfl, hm, hms, hmt⟩ := unq hp
      refine h14.alloc fun v12 w15 h15 => ?_
      refine ⟨h15.load (Box.tree a) (by simp), ?_⟩
      refine h15.store (Box.tree m) rfl fun w16 h16 => ?_
      exact after v12 m w16 _ (by omega) hm hms hmt h16
    · refine h13.alloc fun v12 w14 h14 => ?_
      refine ⟨h14.load (Box.tree a) (by simp), ?_⟩
      refine h14.drew (lit1 w14 _ (1 + d) (by omega) (by omega) h14.src) fun p w15 hp h15 => ?_
      obtain ⟨m, rfl, hm, hms, hmt⟩ := unq hp
      refine h15.store (Box.tree m) rfl fun w16 h16 => ?_
      exact after v12 m w16 _ (by omega) hm hms hmt h16
  · refine h11.alloc fun v12 w13 h13 => ?_
    refine ⟨h13.load (Box.tree a) (by simp), ?_⟩
    refine h13.drew (h_spec_l00Src_next bs hl _ (by omega) 2 (by decide) b w13 h13.src) fun p w14 hp h14 => ?_
    obtain ⟨k, rfl, k0, k1⟩ := hp
    obtain ⟨d, rfl⟩ : ∃ j : Nat, k = (j : Int) := ⟨k.toNat, by omega⟩
    refine ⟨h14.load (Box.tree a) (by simp), ?_⟩
    refine qb_of (x := .int .i64 ((1 + d : Nat) : Int)) (by simp; rw [wrap64 (by omega) (by omega)]) ?_
    have hld := hlc (1 + d) (by omega)
    refine h14.drew (lit1 w14 _ (1 + d) (by omega) (by omega) h14.src) fun p w15 hp h15 => ?_
    obtain ⟨m, rfl, hm, hms, hmt⟩ := unq hp
    refine h15.store (Box.tree m) rfl fun w16 h16 => ?_
    exact after v12 m w16 _ (by omega) hm hms hmt h16
end Go.H.Tryz
/- Contracts: the law FnTyped. -/
set_option linter.unusedVariables false
set_option linter.unusedSimpArgs false
namespace Go.H.Tryz
open Go Go.H

theorem drawn_simpleOK {a : Tr} (h : drawnS 2 a) : a.simpleOK = true := by
  obtain ⟨h1, h2⟩ := drawnS_simple 2 a h
  exact simpleOK_of h1 (by omega)
/-- A long term is accepted at its type. -/
theorem put_check {b c r : Tr} (hb : drawnS 2 b) (hc : drawnS 2 c) (hr : LT someConsts [] (b :: ctx0.reverse) r c) (ho : r.termOK = true) : checkT someConsts (ctx0 ++ [b]) [] r c = 0 := by
  have hs : r.size ≤ 150 := by
    unfold Tr.termOK Tr.small at ho
    rw [Bool.and_eq_true, decide_eq_true_eq] at ho
    exact ho.1
  unfold checkT
  have e3 : simplesOK (ctx0 ++ [b]) 40 = true := by
    unfold simplesOK
    rw [Bool.and_eq_true, decide_eq_true_eq, List.all_eq_true]
    refine ⟨by simp [ctx0], fun x hx => ?_⟩
    rcases List.mem_append.1 hx with hx | hx
    · simp only [ctx0, List.mem_cons, List.not_mem_nil, or_false] at hx
      rcases hx with rfl | rfl
      · exact drawn_simpleOK (.inl (.inl rfl))
      · exact drawn_simpleOK (.inr ⟨_, _, .inl (.inl rfl), .inl (.inr rfl), rfl⟩)
    · simp only [List.mem_singleton] at hx
      subst hx
      exact drawn_simpleOK hb
  have e4 : simplesOK [] 20 = true := by unfold simplesOK; simp
  rw [if_neg (by simp [someConsts, ctx0]), someConsts_ok, e3, e4, ho, drawn_simpleOK hc]
  simp only [Bool.and_true, Bool.not_true, Bool.false_eq_true, if_false]
  have := hr.typed 1000000 (by omega)
  simpa using this
theorem h_laws_withT (ctx : List Tr) (a : Tr) (hl : ctx.length ≤ 1000000) (st : St) : HCalls prog n_laws_with [trees ctx, tree a] st (Just (trees (ctx ++ [a])) st) := by
  apply c_laws_with
  unfold b_laws_with
  refine e_box_ref (tree_isJunk _) ?_
  try simp
  refine (Grow.nil _ 4 4).append (elems_sl _ _ _ _) (by simp; omega) fun p1 s1 hg1 => ?_
  try simp
  refine hg1.append (elems_sl _ _ _ _) (by simp; omega) fun p2 s2 hg2 => ?_
  exact Just.conv (by simpa using hg2.freeze)
theorem h_laws_FnTyped (x0 : List UInt8) (hb : x0.length ≤ 1048576) (st : St) : HCalls prog n_laws_FnTyped [bytesP x0] st (Just (.bool true) st) := by
  apply c_laws_FnTyped
  unfold b_laws_FnTyped
  refine qb_of (x := .int .i64 (x0.length : Int)) (by simp [bytesP]) ?_
  refine qb_of (x := .bool false) (by simp; omega) ?_
  rw [cb_bool, br_false]
  refine callK_gives (h_spec_PutOf x0 (by omega) st) fun p0 hp0 => ?_
  obtain ⟨m, n, t, a, b, c, rfl, ha, hB, hc, hm, ht, hms, hts, hmt, htt⟩ := hp0
  refine qb_of (x := trees ctx0) rfl ?_
  refine qb_of (x := trees [m, n, t]) rfl ?_
  refine qb_of (x := trees [a, b, c]) rfl ?_
  refine qb_of (x := .ref (tree b).cells) rfl ?_
  refine qb_of (ltr _ _) ?_
  refine callK_just (h_laws_withT ctx0 b (by simp [ctx0]) _) ?_
  have hmo : m.termOK = true := by unfold Tr.termOK; rw [hmt]; unfold Tr.small; rw [decide_eq_true (by omega)]; rfl
  have hto : t.termOK = true := by unfold Tr.termOK; rw [htt]; unfold Tr.small; rw [decide_eq_true (by omega)]; rfl
  have hcase := subst_typed hm ht hmo (drawn_simpleOK ha) hto (by simp [ctx0])
  obtain ⟨o, d, hI, hS, hod⟩ : ∃ o d, (∀ s, HCalls prog n_impl_Subst [tree m, tree a, tree t] s (Just (.tup [tree o, .int .i64 d]) s)) ∧ (∀ s, HCalls prog n_spec_Subst [tree m, tree a, tree t] s (Just (.tup [tree o, .int .i64 d]) s)) ∧ ((d = 0 ∧ checkT someConsts (ctx0 ++ [b]) [] o c = 0) ∨ d = 11 ∨ d = 17) := by
    rcases hcase with ⟨r, h, hr, hro⟩ | h | h
    · exact ⟨_, 0, fun s => by have := h_impl_Subst m a t s; rw [h] at this; exact this, fun s => by have := h_spec_Subst m a t s; rw [h] at this; exact this, .inl ⟨rfl, put_check hB hc hr hro⟩⟩
    · exact ⟨_, 11, fun s => by have := h_impl_Subst m a t s; rw [h] at this; exact this, fun s => by have := h_spec_Subst m a t s; rw [h] at this; exact this, .inr (.inl rfl)⟩
    · exact ⟨_, 17, fun s => by have := h_impl_Subst m a t s; rw [h] at this; exact this, fun s => by have := h_spec_Subst m a t s; rw [h] at this; exact this, .inr (.inr rfl)⟩
  refine hJ_of fun J hJ => ?_
  have after : ∀ (v7 : Nat) (w : St), Held st w [(v7, tree o)] [] → J [.ptr v7 0, .int .i64 d] w := fun v7 w h1 => by
    refine hJ _ _ ?_
    refine hJ_of fun J1 hJ1 => ?_
    have after1 : ∀ (v9 : Nat) (w : St), Held st w [(v9, tree o), (v7, tree o)] [] → J1 [.ptr v9 0, .int .i64 d] w := fun v9 w h2 => by
      refine hJ1 _ _ ?_
      refine qb_of (x := .bool false) (by simp) ?_
      rw [cb_bool, br_false]
      refine qb_of (h2.ld (t := o) (v := v7) (by simp)) ?_
      refine qb_of (h2.ld (t := o) (v := v9) (by simp)) ?_
      refine callK_just (h_laws_same _ _ _) ?_
      refine qb_of (x := .bool false) (by simp) ?_
      rw [cb_bool, br_false]
      refine callK_just (h_laws_full d _) ?_
      rcases hod with ⟨rfl, hck⟩ | rfl | rfl
      · refine cbr_f rfl ?_
        refine qb_of (x := .bool true) rfl ?_
        rw [cb_bool, br_true]
        refine qb_of (h2.ld (t := o) (v := v7) (by simp)) ?_
        refine qb_of (x := .ref (tree c).cells) rfl ?_
        refine qb_of (ltr _ _) ?_
        refine callK_just (h_spec_Consts _) ?_
        refine ⟨ltr _ _, h2.ld (t := o) (v := v7) (by simp), ?_⟩
        refine callK_conv (us' := [typeds someConsts, trees (ctx0 ++ [b]), trees [], tree o, tree c]) (st' := w) (Conv.cons (Conv.refl _ _) (Conv.cons (Conv.refl _ _) (Conv.cons (Conv.sl_to w 0 4 true [] (.inr rfl)) (Conv.refl _ _)))) ?_
        refine callK_just (h_impl_SimpleCheck someConsts (ctx0 ++ [b]) [] o c _) ?_
        rw [hck]
        refine qb_of (x := .bool true) rfl ?_
        exact Just.bool rfl h2.sub
      · refine cbr_t rfl ?_
        exact Just.bool rfl h2.sub
      · refine cbr_t rfl ?_
        exact Just.bool rfl h2.sub
    refine qb_of (x := .ref (tree m).cells) rfl ?_
    refine qb_of (ltr _ _) ?_
    refine qb_of (x := .ref (tree a).cells) rfl ?_
    refine qb_of (ltr _ _) ?_
    refine qb_of (x := .ref (tree t).cells) rfl ?_
    refine qb_of (ltr _ _) ?_
    refine ⟨?_, ?_⟩
    · refine callK_just (hS _) ?_
      refine qb_of (x := tree o) rfl ?_
      refine qb_of (x := .int .i64 d) rfl ?_
      refine h1.alloc fun v9 w2 h2 => ?_
      refine ⟨ltr _ _, ltr _ _, ltr _ _, ?_⟩
      refine h2.store (Box.tree o) rfl fun w3 h3 => ?_
      exact after1 v9 w3 h3
    · refine h1.alloc fun v9 w2 h2 => ?_
      refine ⟨ltr _ _, ltr _ _, ltr _ _, ?_⟩
      refine callK_just (hS _) ?_
      refine qb_of (x := tree o) rfl ?_
      refine qb_of (x := .int .i64 d) rfl ?_
      refine h2.store (Box.tree o) rfl fun w3 h3 => ?_
      exact after1 v9 w3 h3
  refine qb_of (x := .ref (tree m).cells) rfl ?_
  refine qb_of (ltr _ _) ?_
  refine qb_of (x := .ref (tree a).cells) rfl ?_
  refine qb_of (ltr _ _) ?_
  refine qb_of (x := .ref (tree t).cells) rfl ?_
  refine qb_of (ltr _ _) ?_
  refine ⟨?_, ?_⟩
  · refine callK_just (hI _) ?_
    refine qb_of (x := tree o) rfl ?_
    refine qb_of (x := .int .i64 d) rfl ?_
    refine (Held.start st).alloc fun v7 w1 h1 => ?_
    refine ⟨ltr _ _, ltr _ _, ltr _ _, ?_⟩
    refine h1.store (Box.tree o) rfl fun w2 h2 => ?_
    exact after v7 w2 h2
  · refine (Held.start st).alloc fun v7 w1 h1 => ?_
    refine ⟨ltr _ _, ltr _ _, ltr _ _, ?_⟩
    refine callK_just (hI _) ?_
    refine qb_of (x := tree o) rfl ?_
    refine qb_of (x := .int .i64 d) rfl ?_
    refine h1.store (Box.tree o) rfl fun w2 h2 => ?_
    exact after v7 w2 h2
end Go.H.Tryz
