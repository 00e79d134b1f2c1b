/- Part of a proof that the program answers as the reference does: EFC90, EFC91, EFC92, EFC93, EFC94, EFC95, EFC96, EFC97, EFC98, EFC99. -/
import Derived.Test.YtlhiejikjncgpaaGreatDoorHY
import Derived.Test.YtlhiejikjncgpaaGreatDoorHQ
import Derived.Test.YtlhiejikjncgpaaGreatDoorHM
import Derived.Test.YtlhiejikjncgpaaGreatDoorHZ
import Derived.Test.YtlhiejikjncgpaaGreatDoorHV
/- Contracts: the drawn numbers. -/
set_option linter.unusedVariables false
set_option linter.unusedSimpArgs false
namespace Go.H.Tryz
open Go Go.H

abbrev z4t : List PV := [.int .i64 0, .int .i64 0, .str [], .sl 0 true []]
theorem d_c0 (s : List UInt8) (st : St) : HCalls prog n_spec_l01Const [.str s, .sl 0 true []] st (Just (tree (.const s [])) st) := h_spec_l01ConstK s [] 0 true (.inr rfl) st
theorem d_c1 (s : List UInt8) (a : Tr) (st : St) : HCalls prog n_spec_l04Neutral [.str s, .sl 4 true [tree a]] st (Just (tree (.const s [a])) st) := h_spec_l04Neutral s [a] 4 true (.inl rfl) st
theorem d_c2 (s : List UInt8) (a b : Tr) (st : St) : HCalls prog n_spec_l04Neutral [.str s, .sl 4 true [tree a, tree b]] st (Just (tree (.const s [a, b])) st) := h_spec_l04Neutral s [a, b] 4 true (.inl rfl) st
theorem d_c3 (s : List UInt8) (a b c : Tr) (st : St) : HCalls prog n_spec_l04Neutral [.str s, .sl 4 true [tree a, tree b, tree c]] st (Just (tree (.const s [a, b, c])) st) := h_spec_l04Neutral s [a, b, c] 4 true (.inl rfl) st
theorem d_c4 (s : List UInt8) (a b c d : Tr) (st : St) : HCalls prog n_spec_l04Neutral [.str s, .sl 4 true [tree a, tree b, tree c, tree d]] st (Just (tree (.const s [a, b, c, d])) st) := h_spec_l04Neutral s [a, b, c, d] 4 true (.inl rfl) st
theorem d_f0 (s : List UInt8) (st : St) : HCalls prog n_spec_l01Fam [.str s, .sl 0 true []] st (Just (tree (.fm s [])) st) := h_spec_l01Fam s [] 0 true (.inr rfl) st
theorem d_f1 (s : List UInt8) (a : Tr) (st : St) : HCalls prog n_spec_l04Fam [.str s, .sl 4 true [tree a]] st (Just (tree (.fm s [a])) st) := h_spec_l04Fam s [a] 4 true (.inl rfl) st
theorem d_f3 (s : List UInt8) (a b c : Tr) (st : St) : HCalls prog n_spec_l04Fam [.str s, .sl 4 true [tree a, tree b, tree c]] st (Just (tree (.fm s [a, b, c])) st) := h_spec_l04Fam s [a, b, c] 4 true (.inl rfl) st
theorem d_x (n : Int) (st : St) : HCalls prog n_spec_l01Var [.int .i64 n, .sl 0 true []] st (Just (tree (xT n)) st) := h_spec_l01Var0 n st
theorem d_v1 (n : Int) (a : Tr) (st : St) : HCalls prog n_spec_l01Var [.int .i64 n, .sl 4 true [tree a]] st (Just (tree (.var n [a])) st) := h_spec_l01Var n 4 true [a] (.inl rfl) st
theorem d_pi (a b : Tr) (st : St) : HCalls prog n_spec_l01Pi [tree a, tree b] st (Just (tree (.pi a b)) st) := h_spec_l01Pi a b st
theorem h_spec_l00Src_nat (bs : List UInt8) (hl : bs.length ≤ 1000000000) (b : Nat) : ∀ (d n : Nat) (M : Int) (st : St), n + d ≤ 200 → M + natK d ≤ 100000000 → Src bs M b st →
    HCalls prog n_spec_l00Src_nat [.ptr b 0, .int .i64 n, .int .i64 d] st (Drew bs (M + natK d) b (ATree (natD n d)) st) := by
  intro d
  induction d using Nat.strongRecOn with
  | ind d ih =>
  intro n M st hnd hM hs
  have hK := natK_pos d
  have hS := natS_pos d
  apply c_spec_l00Src_nat
  unfold b_spec_l00Src_nat
  intro v6 hv6
  have hne := hs.ne hv6
  have fin : ∀ (t : Tr) (s : St) , NatT n t → t.size ≤ natS d → Src bs (M + natK d) b s → Around b st s → s v6 = some (.cells z4t) →
      e_store s 4 (.ptr v6 0) (tree t) fun st_1 => qb (q_load st_1 true 4 (.ptr v6 0)) fun r => retR (Drew bs (M + natK d) b (ATree (natD n d)) st) r st_1 := fun t s ht hsz hsrc ha e => by
    refine store_tree e rfl ?_
    refine qb_of (load_tree (upd_same _ _ _)) ?_
    exact Drew.fin ⟨t, rfl, ht, hsz⟩ (hsrc.put hne _) (ha.put hv6 _)
  generalize hs0 : upd st v6 (.cells [.int .i64 0, .int .i64 0, .str [], .sl 0 true []]) = s0
  have i0 : Src bs M b s0 := by rw [← hs0]; exact hs.put hne _
  have a0 : Around b st s0 := by rw [← hs0]; exact (Around.refl b st).put hv6 _
  have e0 : s0 v6 = some (.cells [.int .i64 0, .int .i64 0, .str [], .sl 0 true []]) := by rw [← hs0]; exact upd_same _ _ _
  clear hs0
  refine callK_drew (h_spec_l00Src_next bs hl M (by omega) 6 (by omega) b s0 i0) (fun p o hp hs1 => ?_)
  obtain ⟨k, rfl, k0, k1⟩ := hp
  have a1 := a0.draw o
  have e1 : (upd s0 b o) v6 = some (.cells z4t) := by rw [upd_ne _ _ hne.symm]; exact e0
  generalize upd s0 b o = s1 at hs1 a1 e1
  refine hJ_of fun J hJ => ?_
  have hz : J [] s1 := hJ _ _ (by
    refine callK_just (d_c0 _ _) ?_
    exact fin zT s1 NatT.z (by rw [size_z]; omega) (hs1.mono (by omega)) a1 e1)
  clear hJ
  try simp
  refine br_dec (fun hk0 => ?_) (fun hk0 => ?_)
  · refine br_dec (fun hn => ?_) (fun hn => hz)
    refine callK_drew (h_spec_l00Src_next bs hl (M + 1) (by omega) n (by omega) b s1 hs1) (fun p o2 hp hs2 => ?_)
    obtain ⟨j, rfl, j0, j1⟩ := hp
    refine callK_just (d_x j _) ?_
    exact fin (xT j) _ (NatT.var j0 (by omega)) (by rw [size_x]; omega) (hs2.mono (by omega)) (a1.draw _) (by rw [upd_ne _ _ hne.symm]; exact e1)
  · refine hJ_of fun J2 hJ2 => ?_
    have all : ∀ c : Bool, J2 [.bool c] s1 := fun c => by
      refine hJ2 _ _ ?_
      clear hJ2
      try simp
      refine br_of (fun hc => ?_) (fun hc => ?_)
      · refine br_dec (fun hd => ?_) (fun hd => hz)
        obtain ⟨e, rfl⟩ : ∃ e, d = e + 1 := ⟨d - 1, by omega⟩
        have hKe : natK (e + 1) = 2 + 2 * natK e := rfl
        have hSe : natS (e + 1) = 2 + 2 * natS e := rfl
        rw [show IntKind.i64.wrap (((e + 1 : Nat) : Int) - 1) = (e : Int) by rw [wrap64 (by omega) (by omega)]; omega]
        refine callK_drew (ih e (by omega) n (M + 1) s1 (by omega) (by omega) hs1) (fun p o2 hp hs2 => ?_)
        obtain ⟨x, rfl, hx, hxs⟩ := hp
        try simp
        refine callK_just (d_c1 _ _ _) ?_
        exact fin (sT x) _ (NatT.s hx) (by rw [size_s]; omega) (hs2.mono (by omega)) (a1.draw _) (by rw [upd_ne _ _ hne.symm]; exact e1)
      · refine br_dec (fun hk3 => ?_) (fun hk3 => hz)
        refine br_dec (fun hd => ?_) (fun hd => hz)
        obtain ⟨e, rfl⟩ : ∃ e, d = e + 1 := ⟨d - 1, by omega⟩
        have hKe : natK (e + 1) = 2 + 2 * natK e := rfl
        have hSe : natS (e + 1) = 2 + 2 * natS e := rfl
        rw [show IntKind.i64.wrap (((e + 1 : Nat) : Int) - 1) = (e : Int) by rw [wrap64 (by omega) (by omega)]; omega]
        rw [show IntKind.i64.wrap ((n : Int) + 1) = ((n + 1 : Nat) : Int) by rw [wrap64 (by omega) (by omega)]; omega]
        refine callK_drew (ih e (by omega) (n + 1) (M + 1) s1 (by omega) (by omega) hs1) (fun p o2 hp hs2 => ?_)
        obtain ⟨x, rfl, hx, hxs⟩ := hp
        refine callK_just (h_spec_l01Lam x _) ?_
        refine callK_drew (ih e (by omega) n (M + 1 + natK e) _ (by omega) (by omega) hs2) (fun p o3 hp hs3 => ?_)
        obtain ⟨y, rfl, hy, hys⟩ := hp
        try simp
        refine callK_just (d_c2 _ _ _ _) ?_
        refine fin (.const wIt [.lam x, y]) _ (NatT.it hx hy) (by rw [size_const]; simp only [Tr.sizes, List.map_cons, List.map_nil, List.sum_cons, List.sum_nil, size_lam]; omega) (by simpa using hs3.mono (by omega)) (by simpa using (a1.draw o2).draw o3) (by first | (rw [upd_ne _ _ hne.symm, upd_ne _ _ hne.symm]; exact e1) | (rw [upd_ne _ _ hne.symm]; exact e1))
    clear hJ2
    try simp
    exact br_dec (fun h1 => all _) (fun h1 => all _)
end Go.H.Tryz
/- Contracts: the drawn judgements. -/
set_option linter.unusedVariables false
set_option linter.unusedSimpArgs false
namespace Go.H.Tryz
open Go Go.H

theorem h_spec_l04Count (k : Nat) (hk : k ≤ 1000) (st : St) : HCalls prog n_spec_l04Count [.int .i64 k] st (Just (tree (cntT k)) st) := by
  apply c_spec_l04Count
  unfold b_spec_l04Count
  intro v2 hv2
  refine callK_just (d_c0 _ _) ?_
  refine new_tree rfl fun v3 hv3 => ?_
  have n23 : v2 ≠ v3 := fun e => by rw [← e, upd_same] at hv3; cases hv3
  have hs3 := ((Sub.refl st).put (o := .cells z4t) hv2).isNone hv3
  have hsub : ∀ o, Sub st (upd (upd st v2 (.cells z4t)) v3 o) := fun o => ((Sub.refl st).put (o := .cells z4t) hv2).put hs3
  rw [show (Tr.const [122] []) = cntT (k - k) by rw [Nat.sub_self]; rfl]
  refine hFix_rec (σ := Nat) (fun j => j) (fun j => [.int .i64 (j : Nat)]) (fun j => upd (upd st v2 (.cells z4t)) v3 (.cells (tree (cntT (k - j))).cells)) (fun j => j ≤ k) ?_ k (Nat.le_refl k)
  · intro j hj ih
    have e3 := upd_same (upd st v2 (.cells z4t)) v3 (.cells (tree (cntT (k - j))).cells)
    refine qb_of (x := .bool (decide (0 < j))) (by simp) ?_
    refine br_dec (fun hpos => ?_) (fun hpos => ?_)
    · refine qb_of (load_tree e3) ?_
      refine qb_of (lit_1 _) ?_
      refine callK_just (d_c1 _ _ _) ?_
      refine store_tree e3 (by rw [tree_cells]; rfl) ?_
      refine qb_of (x := .int .i64 ((j : Int) - 1)) (by simp; exact wrap64 (by omega) (by omega)) ?_
      rw [upd_upd]
      have := ih (j - 1) (by omega) (by omega)
      rw [show k - (j - 1) = (k - j) + 1 by omega] at this
      rw [show ((j - 1 : Nat) : Int) = (j : Int) - 1 by omega] at this
      exact this
    · have : j = 0 := by omega
      subst this
      refine qb_of (load_tree e3) ?_
      refine store_tree (vs := z4t) (by rw [upd_ne _ _ n23]; exact upd_same _ _ _) rfl ?_
      refine qb_of (load_tree (upd_same _ _ _)) ?_
      exact Just.ret ((hsub _).put hv2)
theorem h_spec_l00Src_natCtx (bs : List UInt8) (hl : bs.length ≤ 1000000000) (b : Nat) (M : Int) (st : St) (hM : M ≤ 1000000) (hs : Src bs M b st) :
    HCalls prog n_spec_l00Src_natCtx [.ptr b 0] st (Drew bs (M + 1) b (fun p => ∃ n : Nat, n ≤ 2 ∧ p = trees (ctxN n)) st) := by
  apply c_spec_l00Src_natCtx
  unfold b_spec_l00Src_natCtx
  rw [show q_lit 4 0 0 [] [] = some (.sl 4 true []) from rfl]
  simp only [qb_some]
  refine callK_drew (h_spec_l00Src_next bs hl M (by omega) 3 (by omega) b st hs) (fun p o hp hs1 => ?_)
  obtain ⟨k', rfl, k0, k1⟩ := hp
  obtain ⟨k, rfl⟩ : ∃ k : Nat, k' = (k : Int) := ⟨k'.toNat, by omega⟩
  refine hFix_rec (σ := Nat × PV × St) (fun z => k - z.1) (fun z => [z.2.1, .int .i64 ((k - z.1 : Nat) : Int)]) (fun z => z.2.2) (fun z => z.1 ≤ k ∧ Grow (upd st b o) 4 ((ctxN z.1).map tree) z.2.1 z.2.2) ?_ (0, .sl 4 true [], upd st b o) ⟨by simp, Grow.nil _ _ _⟩
  rintro ⟨j, p, s⟩ ⟨hj, hg⟩ ih
  simp only at hj hg ih ⊢
  try simp
  refine br_dec (fun hpos => ?_) (fun hpos => ?_)
  · refine callK_just (d_f0 _ _) ?_
    try simp
    refine hg.append (elems_sl _ _ _ _) (by simp [ctxN]; omega) fun p2 s2 hg2 => ?_
    rw [wrap64 (by omega) (by omega)]
    have := ih (j + 1, p2, s2) (by simp only; omega) ⟨by simp only; omega, by
      simp only
      rw [← ctxN_more, List.map_append]
      exact hg2⟩
    simp only at this
    rw [show ((k - (j + 1) : Nat) : Int) = ((k - j : Nat) : Int) - 1 by omega] at this
    simpa using this
  · have : j = k := by omega
    subst this
    exact retR_conv hg.freeze ⟨_, o, rfl, ⟨j, by omega, rfl⟩, rfl, hs1⟩
/-- In the midst of a draw: three places of one's own. -/
structure JS (bs : List UInt8) (M : Int) (b : Nat) (st : St) (v4 v5 v6 : Nat) (s : St) : Prop where
  src : Src bs M b s
  ar : Around b st s
  e4 : s v4 = some (.cells z4t)
  e5 : s v5 = some (.cells z4t)
  e6 : s v6 = some (.cells (tree natF).cells)
  n4 : v4 ≠ b
  n5 : v5 ≠ b
  n6 : v6 ≠ b
  n45 : v4 ≠ v5
  f4 : st v4 = none
  f5 : st v5 = none
section
variable {bs : List UInt8} {M : Int} {b : Nat} {st : St} {v4 v5 v6 : Nat} {s : St}
theorem JS.drew (h : JS bs M b st v4 v5 v6 s) {M' : Int} {o : HObj} (hs : Src bs M' b (upd s b o)) : JS bs M' b st v4 v5 v6 (upd s b o) :=
  ⟨hs, h.ar.draw o, by rw [upd_ne _ _ h.n4]; exact h.e4, by rw [upd_ne _ _ h.n5]; exact h.e5, by rw [upd_ne _ _ h.n6]; exact h.e6, h.n4, h.n5, h.n6, h.n45, h.f4, h.f5⟩
theorem JS.turn (h : JS bs M b st v4 v5 v6 s) {c : Nat} (hc : st c = none) (hb : b ≠ c) (h4 : v4 ≠ c) (h5 : v5 ≠ c) (h6 : v6 ≠ c) (o : HObj) : JS bs M b st v4 v5 v6 (upd s c o) :=
  ⟨h.src.put hb o, h.ar.put hc o, by rw [upd_ne _ _ h4]; exact h.e4, by rw [upd_ne _ _ h5]; exact h.e5, by rw [upd_ne _ _ h6]; exact h.e6, h.n4, h.n5, h.n6, h.n45, h.f4, h.f5⟩
theorem JS.new (h : JS bs M b st v4 v5 v6 s) {c : Nat} (hc : s c = none) : st c = none ∧ b ≠ c ∧ v4 ≠ c ∧ v5 ≠ c ∧ v6 ≠ c :=
  ⟨h.ar.isNone (Ne.symm (h.src.ne hc)) hc, h.src.ne hc, fun e => (by have := h.e4; rw [e, hc] at this; cases this), fun e => (by have := h.e5; rw [e, hc] at this; cases this), fun e => (by have := h.e6; rw [e, hc] at this; cases this)⟩
theorem JS.put (h : JS bs M b st v4 v5 v6 s) {c : Nat} (hc : s c = none) (o : HObj) : JS bs M b st v4 v5 v6 (upd s c o) :=
  have ⟨a1, a2, a3, a4, a5⟩ := h.new hc
  h.turn a1 a2 a3 a4 a5 o
def JD (n : Nat) (p : PV) : Prop := ∃ m a, p = .tup [tree m, tree a] ∧ JudgedT n m a ∧ m.size ≤ 150 ∧ a.size ≤ 30
theorem JS.fin (h : JS bs M b st v4 v5 v6 s) {n : Nat} {m a : Tr} {M' : Int} (hM : M ≤ M') (hj : JudgedT n m a) (h1 : m.size ≤ 150) (h2 : a.size ≤ 30) :
    e_store s 4 (.ptr v4 0) (tree m) fun st_1 => e_store st_1 4 (.ptr v5 0) (tree a) fun st_2 => qb (q_load st_2 true 4 (.ptr v4 0)) fun r => qb (q_load st_2 true 4 (.ptr v5 0)) fun r_1 => retR (Drew bs M' b (JD n) st) (.tup [r, r_1]) st_2 := by
  refine store_tree h.e4 rfl ?_
  have e5 : upd s v4 (.cells (tree m).cells) v5 = some (.cells z4t) := by rw [upd_ne _ _ (Ne.symm h.n45)]; exact h.e5
  refine store_tree e5 rfl ?_
  refine qb_of (load_tree (t := m) (by rw [upd_ne _ _ h.n45]; exact upd_same _ _ _)) ?_
  refine qb_of (load_tree (upd_same _ _ _)) ?_
  exact Drew.fin ⟨m, a, rfl, hj, h1, h2⟩ (((h.src.mono hM).put (Ne.symm h.n4) _).put (Ne.symm h.n5) _) ((h.ar.put h.f4 _).put h.f5 _)
end
end Go.H.Tryz
/- Contracts: the drawn judgements, continued. -/
set_option linter.unusedVariables false
set_option linter.unusedSimpArgs false
namespace Go.H.Tryz
open Go Go.H

set_option maxHeartbeats 4000000 in
theorem h_spec_l00Src_judged (bs : List UInt8) (hl : bs.length ≤ 1000000000) (b n : Nat) (M : Int) (st : St) (hn : n ≤ 2) (hM : M ≤ 1000000) (hs : Src bs M b st) :
    HCalls prog n_spec_l00Src_judged [.ptr b 0, .int .i64 n] st (Drew bs (M + 100) b (JD n) st) := by
  apply c_spec_l00Src_judged
  unfold b_spec_l00Src_judged
  intro v4 hv4
  intro v5 hv5
  have n45 : v4 ≠ v5 := fun e => by rw [← e, upd_same] at hv5; cases hv5
  have b4 := hs.ne hv4
  have hs1 := hs.put b4 (.cells z4t)
  have b5 := hs1.ne hv5
  have hs2 := hs1.put b5 (.cells z4t)
  have k5 : st v5 = none := by rw [upd_ne _ _ (Ne.symm n45)] at hv5; exact hv5
  have a2 : Around b st (upd (upd st v4 (.cells z4t)) v5 (.cells z4t)) := ((Around.refl b st).put hv4 _).put k5 _
  have e4 : upd (upd st v4 (.cells z4t)) v5 (.cells z4t) v4 = some (.cells z4t) := by rw [upd_ne _ _ n45]; exact upd_same _ _ _
  have e5 := upd_same (upd st v4 (.cells z4t)) v5 (.cells z4t)
  refine callK_just (d_f0 _ _) ?_
  show e_alloc (upd (upd st v4 (.cells z4t)) v5 (.cells z4t)) _ _
  generalize upd (upd st v4 (.cells z4t)) v5 (.cells z4t) = s at hs2 a2 e4 e5
  refine new_tree rfl fun v6 hv6 => ?_
  have b6 := hs2.ne hv6
  have j0 : JS bs M b st v4 v5 v6 (upd s v6 (.cells (tree natF).cells)) :=
    ⟨hs2.put b6 _, a2.put (a2.isNone (Ne.symm b6) hv6) _, by rw [upd_ne _ _ (fun e => by rw [e, hv6] at e4; cases e4)]; exact e4, by rw [upd_ne _ _ (fun e => by rw [e, hv6] at e5; cases e5)]; exact e5, upd_same _ _ _, Ne.symm b4, Ne.symm b5, Ne.symm b6, n45, hv4, k5⟩
  have ej : (Tr.fm [110, 97, 116] []) = natF := rfl
  rw [ej]
  generalize upd s v6 (.cells (tree natF).cells) = s at j0
  refine callK_drew (h_spec_l00Src_next bs hl M (by omega) 6 (by omega) b s j0.src) (fun p o hp hs1 => ?_)
  obtain ⟨k, rfl, k0, k1⟩ := hp
  have j1 := j0.drew hs1
  generalize upd s b o = s at j1
  have K2 : natK 2 = 14 := rfl
  have K3 : natK 3 = 30 := rfl
  have K4 : natK 4 = 62 := rfl
  have S2 : natS 2 = 10 := rfl
  have S3 : natS 3 = 22 := rfl
  have S4 : natS 4 = 46 := rfl
  refine qb_of (x := .bool (decide (k = 0))) (by simp) ?_
  refine br_dec (fun h0 => ?_) (fun h0 => ?_)
  · refine qb_of (x := .int .i64 ((n + 1 : Nat) : Int)) (by simp; rw [wrap64 (by omega) (by omega)]) ?_
    refine qb_of (load_tree j1.e6) ?_
    refine qb_of (load_tree j1.e6) ?_
    refine callK_drew (h_spec_l00Src_nat bs hl b 3 (n + 1) (M + 1) s (by omega) (by omega) j1.src) (fun p o hp hs2 => ?_)
    obtain ⟨t, rfl, ht, hts⟩ := hp
    have j2 := j1.drew hs2
    refine ⟨load_tree j2.e6, load_tree j2.e6, ?_⟩
    refine callK_just (h_spec_l01Lam t _) ?_
    refine ⟨load_tree j2.e6, load_tree j2.e6, ?_⟩
    refine callK_just (d_pi natF natF _) ?_
    exact j2.fin (by omega) (JudgedT.fn ht (by omega)) (by rw [size_lam]; omega) (by rw [size_pi, size_nat]; omega)
  · refine qb_of (x := .bool (decide (k = 1))) (by simp) ?_
    refine br_dec (fun h1 => ?_) (fun h1 => ?_)
    · refine callK_drew (h_spec_l00Src_next bs hl (M + 1) (by omega) 4 (by omega) b s j1.src) (fun p o hp hs2 => ?_)
      obtain ⟨q', rfl, q0, q1⟩ := hp
      obtain ⟨q, rfl⟩ : ∃ q : Nat, q' = (q : Int) := ⟨q'.toNat, by omega⟩
      have j2 := j1.drew hs2
      generalize upd s b o = s at j2
      refine callK_just (d_c0 _ _) ?_
      refine new_tree rfl fun v8 hv8 => ?_
      obtain ⟨c1, c2, c3, c4, c5⟩ := j2.new hv8
      have j3 := j2.put hv8 (.cells (tree (.const wNil [])).cells)
      have e8 := upd_same s v8 (.cells (tree (.const wNil [])).cells)
      show hFix _ _ (upd s v8 (.cells (tree (.const wNil [])).cells))
      generalize upd s v8 (.cells (tree (.const wNil [])).cells) = s3 at j3 e8
      refine hFix_rec (σ := Nat × St × Tr) (fun z => q - z.1) (fun z => [.int .i64 (z.1 : Nat)]) (fun z => z.2.1) (fun z => z.1 ≤ q ∧ JS bs (M + 2 + 14 * (z.1 : Int)) b st v4 v5 v6 z.2.1 ∧ z.2.1 v8 = some (.cells (tree z.2.2).cells) ∧ ListT n z.1 z.2.2 ∧ z.2.2.size ≤ 1 + 14 * z.1) ?_
        (0, s3, .const wNil []) ⟨Nat.zero_le _, by simpa using (⟨j3.src.mono (by omega), j3.ar, j3.e4, j3.e5, j3.e6, j3.n4, j3.n5, j3.n6, j3.n45, j3.f4, j3.f5⟩ : JS bs (M + 2) b st v4 v5 v6 s3), e8, ListT.nil, by rw [size_const]; simp [Tr.sizes]⟩
      rintro ⟨i, s, t⟩ ⟨hi, j, e8, hT, hsz⟩ ih
      simp only at hi j e8 hT hsz ih ⊢
      refine qb_of (x := .bool (decide (i < q))) (by simp) ?_
      refine br_dec (fun hlt => ?_) (fun hge => ?_)
      · refine qb_of (load_tree e8) ?_
        refine callK_just (h_spec_l04Count i (by omega) _) ?_
        refine ⟨load_tree e8, ?_⟩
        refine callK_drew (h_spec_l00Src_nat bs hl b 2 n _ s (by omega) (by omega) j.src) (fun p o hp hs2 => ?_)
        obtain ⟨x, rfl, hx, hxs⟩ := hp
        have j' := j.drew hs2
        have e8' : upd s b o v8 = some (.cells (tree t).cells) := by rw [upd_ne _ _ (Ne.symm c2)]; exact e8
        refine ⟨load_tree e8', ?_⟩
        refine qb_of (lit_3 _ _ _) ?_
        refine callK_just (d_c3 _ _ _ _ _) ?_
        refine store_tree e8' (by rw [tree_cells]; rfl) ?_
        refine qb_of (x := .int .i64 ((i + 1 : Nat) : Int)) (by simp; rw [wrap64 (by omega) (by omega)]) ?_
        have j'' := j'.turn c1 c2 c3 c4 c5 (.cells (tree (.const wCons [cntT i, x, t])).cells)
        refine ih (i + 1, upd (upd s b o) v8 (.cells (tree (.const wCons [cntT i, x, t])).cells), .const wCons [cntT i, x, t]) (by simp only; omega) ⟨by simp only; omega, ?_, upd_same _ _ _, ListT.cons hx hT, ?_⟩
        · exact ⟨j''.src.mono (by simp only; omega), j''.ar, j''.e4, j''.e5, j''.e6, j''.n4, j''.n5, j''.n6, j''.n45, j''.f4, j''.f5⟩
        · rw [size_const]
          simp only [Tr.sizes, List.map_cons, List.map_nil, List.sum_cons, List.sum_nil, size_count]
          omega
      · have : i = q := by omega
        subst this
        refine qb_of (load_tree e8) ?_
        refine callK_just (h_spec_l04Count i (by omega) _) ?_
        refine ⟨load_tree e8, ?_⟩
        refine qb_of (lit_1 _) ?_
        refine callK_just (d_f1 _ _ _) ?_
        refine ⟨load_tree e8, ?_⟩
        exact j.fin (by omega) (JudgedT.list (by omega) hT (by omega)) (by omega) (by rw [show (Tr.fm [118, 101, 99] [cntT i]) = vecF (cntT i) from rfl, size_vec, size_count]; omega)
    · refine qb_of (x := .bool (decide (k = 2))) (by simp) ?_
      refine br_dec (fun h2 => ?_) (fun h2 => ?_)
      · refine callK_drew (h_spec_l00Src_next bs hl (M + 1) (by omega) 4 (by omega) b s j1.src) (fun p o hp hs2 => ?_)
        obtain ⟨q', rfl, q0, q1⟩ := hp
        obtain ⟨q, rfl⟩ : ∃ q : Nat, q' = (q : Int) := ⟨q'.toNat, by omega⟩
        have j2 := j1.drew hs2
        generalize upd s b o = s at j2
        refine callK_drew (h_spec_l00Src_nat bs hl b 2 n (M + 1 + 1) s (by omega) (by omega) j2.src) (fun p o hp hs3 => ?_)
        obtain ⟨m, rfl, hm, hms⟩ := hp
        have j3 := j2.drew hs3
        generalize upd s b o = s at j3
        refine new_tree rfl fun v11 hv11 => ?_
        have j4 := j3.put hv11 (.cells (tree m).cells)
        have e11 := upd_same s v11 (.cells (tree m).cells)
        generalize upd s v11 (.cells (tree m).cells) = s at j4 e11
        refine qb_of (load_tree e11) ?_
        refine qb_of (lit_1 _) ?_
        refine callK_just (d_c1 _ _ _) ?_
        refine new_tree rfl fun v12 hv12 => ?_
        obtain ⟨c1, c2, c3, c4, c5⟩ := j4.new hv12
        have n1 : v11 ≠ v12 := fun e => by rw [e, hv12] at e11; cases e11
        have j5 := j4.put hv12 (.cells (tree (.const wPz [m])).cells)
        have e12 := upd_same s v12 (.cells (tree (.const wPz [m])).cells)
        have e11 : upd s v12 (.cells (tree (.const wPz [m])).cells) v11 = some (.cells (tree m).cells) := by rw [upd_ne _ _ n1]; exact e11
        rw [show (Tr.const [112, 122] [m]) = .const wPz [m] from rfl]
        generalize upd s v12 (.cells (tree (.const wPz [m])).cells) = s at j5 e11 e12
        refine qb_of (load_tree e11) ?_
        refine new_tree rfl fun v13 hv13 => ?_
        obtain ⟨d1, d2, d3, d4, d5⟩ := j5.new hv13
        have n2 : v11 ≠ v13 := fun e => by rw [e, hv13] at e11; cases e11
        have n3 : v12 ≠ v13 := fun e => by rw [e, hv13] at e12; cases e12
        have j6 := j5.put hv13 (.cells (tree m).cells)
        have e13 := upd_same s v13 (.cells (tree m).cells)
        have e11 : upd s v13 (.cells (tree m).cells) v11 = some (.cells (tree m).cells) := by rw [upd_ne _ _ n2]; exact e11
        have e12 : upd s v13 (.cells (tree m).cells) v12 = some (.cells (tree (.const wPz [m])).cells) := by rw [upd_ne _ _ n3]; exact e12
        generalize upd s v13 (.cells (tree m).cells) = s6 at j6 e11 e12 e13
        refine hFix_rec (σ := Nat × St × Tr × Tr) (fun z => q - z.1) (fun z => [.int .i64 (z.1 : Nat)]) (fun z => z.2.1) (fun z => z.1 ≤ q ∧ JS bs (M + 1 + 1 + 14) b st v4 v5 v6 z.2.1 ∧ z.2.1 v11 = some (.cells (tree m).cells) ∧ z.2.1 v12 = some (.cells (tree z.2.2.1).cells) ∧ z.2.1 v13 = some (.cells (tree z.2.2.2).cells) ∧ SumT n m z.1 z.2.2.1 z.2.2.2 ∧ z.2.2.1.size ≤ 11 + 26 * z.1) ?_
          (0, s6, .const wPz [m], m) ⟨Nat.zero_le _, ⟨j6.src.mono (by omega), j6.ar, j6.e4, j6.e5, j6.e6, j6.n4, j6.n5, j6.n6, j6.n45, j6.f4, j6.f5⟩, e11, e12, e13, SumT.z, by rw [size_const]; simp only [Tr.sizes, List.map_cons, List.map_nil, List.sum_cons, List.sum_nil]; omega⟩
        rintro ⟨i, s, t, u⟩ ⟨hi, j, e11, e12, e13, hT, hsz⟩ ih
        simp only at hi j e11 e12 e13 hT hsz ih ⊢
        have husz := hT.nat_size
        refine qb_of (x := .bool (decide (i < q))) (by simp) ?_
        refine br_dec (fun hlt => ?_) (fun hge => ?_)
        · refine qb_of (load_tree e11) ?_
          refine qb_of (load_tree e13) ?_
          refine qb_of (load_tree e12) ?_
          refine callK_just (h_spec_l04Count i (by omega) _) ?_
          refine ⟨load_tree e12, load_tree e13, load_tree e11, ?_⟩
          refine qb_of (lit_4 _ _ _ _) ?_
          refine callK_just (d_c4 _ _ _ _ _ _) ?_
          refine store_tree e12 (by rw [tree_cells]; rfl) ?_
          have j' := j.turn c1 c2 c3 c4 c5 (.cells (tree (.const wPs [cntT i, m, u, t])).cells)
          have f11 : upd s v12 (.cells (tree (.const wPs [cntT i, m, u, t])).cells) v11 = some (.cells (tree m).cells) := by rw [upd_ne _ _ n1]; exact e11
          have f12 := upd_same s v12 (.cells (tree (.const wPs [cntT i, m, u, t])).cells)
          have f13 : upd s v12 (.cells (tree (.const wPs [cntT i, m, u, t])).cells) v13 = some (.cells (tree u).cells) := by rw [upd_ne _ _ (Ne.symm n3)]; exact e13
          rw [show (Tr.const [112, 115] [cntT i, m, u, t]) = .const wPs [cntT i, m, u, t] from rfl]
          generalize upd s v12 (.cells (tree (.const wPs [cntT i, m, u, t])).cells) = s7 at j' f11 f12 f13
          refine qb_of (load_tree f13) ?_
          refine qb_of (lit_1 _) ?_
          refine callK_just (d_c1 _ _ _) ?_
          refine store_tree f13 (by rw [tree_cells]; rfl) ?_
          refine qb_of (x := .int .i64 ((i + 1 : Nat) : Int)) (by simp; rw [wrap64 (by omega) (by omega)]) ?_
          have j'' := j'.turn d1 d2 d3 d4 d5 (.cells (tree (sT u)).cells)
          refine ih (i + 1, upd s7 v13 (.cells (tree (sT u)).cells), .const wPs [cntT i, m, u, t], sT u) (by simp only; omega) ⟨by simp only; omega, j'', ?_, ?_, upd_same _ _ _, SumT.s hT, ?_⟩
          · simp only; rw [upd_ne _ _ n2]; exact f11
          · simp only; rw [upd_ne _ _ n3]; exact f12
          · rw [size_const]
            simp only [Tr.sizes, List.map_cons, List.map_nil, List.sum_cons, List.sum_nil, size_count]
            omega
        · have : i = q := by omega
          subst this
          refine qb_of (load_tree e12) ?_
          refine qb_of (load_tree e11) ?_
          refine qb_of (load_tree e13) ?_
          refine callK_just (h_spec_l04Count i (by omega) _) ?_
          refine ⟨load_tree e13, load_tree e11, load_tree e12, ?_⟩
          refine qb_of (lit_3 _ _ _) ?_
          refine callK_just (d_f3 _ _ _ _ _) ?_
          refine ⟨load_tree e12, ?_⟩
          exact j.fin (by omega) (JudgedT.sum (by omega) hm (by omega) hT (by omega)) (by omega) (by rw [show (Tr.fm [112, 108, 117, 115] [cntT i, m, u]) = plusF (cntT i) m u from rfl, size_plus, size_count]; omega)
      · refine qb_of (x := .bool (decide (k = 3))) (by simp) ?_
        refine br_dec (fun h3 => ?_) (fun h3 => ?_)
        · refine qb_of (x := .int .i64 ((n + 1 : Nat) : Int)) (by simp; rw [wrap64 (by omega) (by omega)]) ?_
          refine callK_drew (h_spec_l00Src_nat bs hl b 2 (n + 1) (M + 1) s (by omega) (by omega) j1.src) (fun p o hp hs2 => ?_)
          obtain ⟨t, rfl, ht, hts⟩ := hp
          have j2 := j1.drew hs2
          generalize upd s b o = s at j2
          refine callK_just (h_spec_l01Lam t _) ?_
          refine new_tree rfl fun v15 hv15 => ?_
          have j3 := j2.put hv15 (.cells (tree (.lam t)).cells)
          have e15 := upd_same s v15 (.cells (tree (.lam t)).cells)
          generalize upd s v15 (.cells (tree (.lam t)).cells) = s at j3 e15
          refine qb_of (load_tree e15) ?_
          refine qb_of (lit_1 _) ?_
          refine qb_of (load_tree e15) ?_
          refine qb_of (lit_1 _) ?_
          refine callK_just (d_c1 _ _ _) ?_
          refine ⟨load_tree e15, ?_⟩
          refine callK_just (d_f1 _ _ _) ?_
          exact j3.fin (by omega) (JudgedT.mk ht (by omega)) (by rw [size_const]; simp only [Tr.sizes, List.map_cons, List.map_nil, List.sum_cons, List.sum_nil, size_lam]; omega) (by rw [size_fm]; simp only [Tr.sizes, List.map_cons, List.map_nil, List.sum_cons, List.sum_nil, size_lam]; omega)
        · refine qb_of (load_tree j1.e6) ?_
          refine callK_drew (h_spec_l00Src_nat bs hl b 4 n (M + 1) s (by omega) (by omega) j1.src) (fun p o hp hs2 => ?_)
          obtain ⟨t, rfl, ht, hts⟩ := hp
          have j2 := j1.drew hs2
          generalize upd s b o = s at j2
          refine ⟨load_tree j2.e6, ?_⟩
          have n46 : v6 ≠ v4 := fun e => by have h := j2.e4; rw [← e, j2.e6, tree_cells] at h; simp [natF, Tr.fm, Tr.kind] at h
          have n56 : v6 ≠ v5 := fun e => by have h := j2.e5; rw [← e, j2.e6, tree_cells] at h; simp [natF, Tr.fm, Tr.kind] at h
          refine store_tree j2.e4 rfl ?_
          refine ⟨load_tree (by rw [upd_ne _ _ n46]; exact j2.e6), ?_⟩
          have e5 : upd s v4 (.cells (tree t).cells) v5 = some (.cells z4t) := by rw [upd_ne _ _ (Ne.symm n45)]; exact j2.e5
          refine store_tree e5 rfl ?_
          refine qb_of (load_tree (t := t) (by rw [upd_ne _ _ n45]; exact upd_same _ _ _)) ?_
          refine qb_of (load_tree (upd_same _ _ _)) ?_
          exact Drew.fin ⟨t, natF, rfl, JudgedT.num ht (by omega), by omega, by rw [size_nat]; omega⟩ (((j2.src.mono (by omega)).put (Ne.symm j2.n4) _).put (Ne.symm j2.n5) _) ((j2.ar.put j2.f4 _).put j2.f5 _)
end Go.H.Tryz
/- Contracts: what is drawn out of bytes: a judgement, a number; the signature of numbers. -/
set_option linter.unusedVariables false
set_option linter.unusedSimpArgs false
namespace Go.H.Tryz
open Go Go.H

/-- A judgement is handed back. -/
def GiveJ (st : St) : Res → St → Prop := fun r s => s = st ∧ ∃ n m a, r = .ret (.tup [trees (ctxN n), tree m, tree a]) ∧ n ≤ 2 ∧ JudgedT n m a ∧ m.size ≤ 150 ∧ a.size ≤ 30
theorem callK_giveJ {P : Program} {g : FuncId} {us : List PV} {st : St} {K Kp : PV → St → Prop} (hc : HCalls P g us st (GiveJ st)) (hk : ∀ n m a, n ≤ 2 → JudgedT n m a → m.size ≤ 150 → a.size ≤ 30 → K (.tup [trees (ctxN n), tree m, tree a]) st) : callK P g us st K Kp := by
  refine callK_of hc (fun p s h => ?_) (fun p s h => ?_)
  · obtain ⟨rfl, n, m, a, h, h1, h2, h3, h4⟩ := h
    cases h
    exact hk n m a h1 h2 h3 h4
  · obtain ⟨_, _, _, _, h, _⟩ := h
    cases h
theorem h_spec_JudgedOf (bs : List UInt8) (hl : bs.length ≤ 1000000000) (st : St) : HCalls prog n_spec_JudgedOf [bytesP bs] st (GiveJ st) := by
  apply c_spec_JudgedOf
  unfold b_spec_JudgedOf
  intro v3 hv3
  intro v4 hv4
  have n34 : v3 ≠ v4 := fun e => by rw [← e, upd_same] at hv4; cases hv4
  have hsub := ((Sub.refl st).put (o := .cells z4t) hv3).put (o := .cells z4t) (((Sub.refl st).put (o := .cells z4t) hv3).isNone hv4)
  have k4 : st v4 = none := by rw [upd_ne _ _ (Ne.symm n34)] at hv4; exact hv4
  have e3 : upd (upd st v3 (.cells z4t)) v4 (.cells z4t) v3 = some (.cells z4t) := by rw [upd_ne _ _ n34]; exact upd_same _ _ _
  have e4 := upd_same (upd st v3 (.cells z4t)) v4 (.cells z4t)
  show callK prog n_spec_l00Source _ (upd (upd st v3 (.cells z4t)) v4 (.cells z4t)) _ _
  generalize upd (upd st v3 (.cells z4t)) v4 (.cells z4t) = s at hsub e3 e4
  refine callK_begun (h_spec_l00Source bs hl _) (fun b o hb hs => ?_)
  have kb := hsub.isNone hb
  have n3 : v3 ≠ b := fun e => by rw [e, hb] at e3; cases e3
  have n4 : v4 ≠ b := fun e => by rw [e, hb] at e4; cases e4
  refine callK_drew (h_spec_l00Src_natCtx bs hl b 0 _ (by omega) hs) (fun p o1 hp hs1 => ?_)
  obtain ⟨n, hn, rfl⟩ := hp
  refine qb_of (x := .int .i64 n) (by simp [trees, ctxN]) ?_
  refine callK_drew (h_spec_l00Src_judged bs hl b n (0 + 1) _ hn (by omega) hs1) (fun p o2 hp hs2 => ?_)
  obtain ⟨m, a, rfl, hj, hm, ha⟩ := hp
  refine qb_of (x := tree m) rfl ?_
  refine qb_of (x := tree a) rfl ?_
  have e3 : upd (upd (upd s b o) b o1) b o2 v3 = some (.cells z4t) := by rw [upd_ne _ _ n3, upd_ne _ _ n3, upd_ne _ _ n3]; exact e3
  have e4 : upd (upd (upd s b o) b o1) b o2 v4 = some (.cells z4t) := by rw [upd_ne _ _ n4, upd_ne _ _ n4, upd_ne _ _ n4]; exact e4
  have hsub := ((hsub.put (o := o) kb).put (o := o1) kb).put (o := o2) kb
  generalize upd (upd (upd s b o) b o1) b o2 = s at hsub e3 e4
  intro v7 hv7
  intro v8 hv8
  have n78 : v7 ≠ v8 := fun e => by rw [← e, upd_same] at hv8; cases hv8
  have n37 : v3 ≠ v7 := fun e => by rw [e, hv7] at e3; cases e3
  have n47 : v4 ≠ v7 := fun e => by rw [e, hv7] at e4; cases e4
  have k8 : s v8 = none := by rw [upd_ne _ _ (Ne.symm n78)] at hv8; exact hv8
  have n38 : v3 ≠ v8 := fun e => by rw [e, k8] at e3; cases e3
  have n48 : v4 ≠ v8 := fun e => by rw [e, k8] at e4; cases e4
  have k7s := hsub.isNone hv7
  have k8s := hsub.isNone k8
  have f7 : upd (upd s v7 (.cells z4t)) v8 (.cells z4t) v7 = some (.cells z4t) := by rw [upd_ne _ _ n78]; exact upd_same _ _ _
  refine store_tree f7 rfl ?_
  refine store_tree (vs := z4t) (by rw [upd_ne _ _ (Ne.symm n78)]; exact upd_same _ _ _) rfl ?_
  have hsub := (((hsub.put (o := .cells z4t) k7s).put (o := .cells z4t) k8s).put (o := .cells (tree m).cells) k7s).put (o := .cells (tree a).cells) k8s
  have g7 : upd (upd (upd (upd s v7 (.cells z4t)) v8 (.cells z4t)) v7 (.cells (tree m).cells)) v8 (.cells (tree a).cells) v7 = some (.cells (tree m).cells) := by rw [upd_ne _ _ n78]; exact upd_same _ _ _
  have g8 := upd_same (upd (upd (upd s v7 (.cells z4t)) v8 (.cells z4t)) v7 (.cells (tree m).cells)) v8 (.cells (tree a).cells)
  have g3 : upd (upd (upd (upd s v7 (.cells z4t)) v8 (.cells z4t)) v7 (.cells (tree m).cells)) v8 (.cells (tree a).cells) v3 = some (.cells z4t) := by rw [upd_ne _ _ n38, upd_ne _ _ n37, upd_ne _ _ n38, upd_ne _ _ n37]; exact e3
  have g4 : upd (upd (upd (upd s v7 (.cells z4t)) v8 (.cells z4t)) v7 (.cells (tree m).cells)) v8 (.cells (tree a).cells) v4 = some (.cells z4t) := by rw [upd_ne _ _ n48, upd_ne _ _ n47, upd_ne _ _ n48, upd_ne _ _ n47]; exact e4
  generalize upd (upd (upd (upd s v7 (.cells z4t)) v8 (.cells z4t)) v7 (.cells (tree m).cells)) v8 (.cells (tree a).cells) = w at hsub g7 g8 g3 g4
  refine qb_of (load_tree g7) ?_
  refine qb_of (load_tree g8) ?_
  refine store_tree g3 rfl ?_
  refine ⟨load_tree (by rw [upd_ne _ _ (Ne.symm n38)]; exact g8), ?_⟩
  refine store_tree (vs := z4t) (by rw [upd_ne _ _ (Ne.symm n34)]; exact g4) rfl ?_
  refine qb_of (load_tree (t := m) (by rw [upd_ne _ _ n34]; exact upd_same _ _ _)) ?_
  refine qb_of (load_tree (upd_same _ _ _)) ?_
  exact retR_sub ((hsub.put hv3).put k4) ⟨rfl, n, m, a, rfl, hn, hj, hm, ha⟩
end Go.H.Tryz
/- Contracts: the signature of numbers. -/
set_option linter.unusedVariables false
set_option linter.unusedSimpArgs false
namespace Go.H.Tryz
open Go Go.H

theorem q_d (s : List UInt8) (t : Tr) : q_struct [.str [], .bool false, .int .i64 0, .int .i64 0, .str [], .sl 0 true []] [(0, 1, .str s), (2, 4, tree t)] = some (decl ⟨s, false, t⟩) := by
  rw [tree_eq]; unfold decl; rw [tree_cells]; rfl
theorem q_f (s : List UInt8) (t : Tr) : q_struct [.str [], .bool false, .int .i64 0, .int .i64 0, .str [], .sl 0 true []] [(0, 1, .str s), (1, 1, .bool true), (2, 4, tree t)] = some (decl ⟨s, true, t⟩) := by
  rw [tree_eq]; unfold decl; rw [tree_cells]; rfl
theorem d_ty (st : St) : HCalls prog n_spec_l01Type [] st (Just (tree .typ) st) := by
  apply c_spec_l01Type
  unfold b_spec_l01Type
  intro b hb
  rw [show q_struct [PV.int IntKind.i64 0, PV.int IntKind.i64 0, PV.str [], PV.sl 0 true []] [(0, 1, PV.int IntKind.i64 1)] = some (.agg [.int .i64 1, .int .i64 0, .str [], .sl 0 true []]) from rfl]
  try simp
  try simp [q_load_p (upd_same _ _ _)]
  exact Just.tree (t := .typ) rfl (.inr rfl) rfl rfl rfl ((Sub.refl _).put hb)
set_option maxRecDepth 100000 in
set_option maxHeartbeats 4000000 in
theorem h_spec_l04Some (st : St) : HCalls prog n_spec_l04Some [] st (Just (decls numbersL) st) := by
  apply c_spec_l04Some
  unfold b_spec_l04Some
  refine callK_just (d_f0 _ _) ?_
  refine new_tree rfl fun v1 hv1 => ?_
  have hsub := (Sub.refl st).put (o := .cells (tree (Tr.fm [110, 97, 116] [])).cells) hv1
  have e1 := upd_same st v1 (.cells (tree (Tr.fm [110, 97, 116] [])).cells)
  generalize upd st v1 (.cells (tree (Tr.fm [110, 97, 116] [])).cells) = a at hsub e1
  refine callK_just (d_c0 _ _) ?_
  refine new_tree rfl fun v2 hv2 => ?_
  have hsub := hsub.put (o := .cells (tree (Tr.const [122] [])).cells) (hsub.isNone hv2)
  have e1 : upd a v2 (.cells (tree (Tr.const [122] [])).cells) v1 = some (.cells (tree (Tr.fm [110, 97, 116] [])).cells) := by rw [upd_ne _ _ (fun e => by rw [e, hv2] at e1; cases e1)]; exact e1
  have e2 := upd_same a v2 (.cells (tree (Tr.const [122] [])).cells)
  generalize upd a v2 (.cells (tree (Tr.const [122] [])).cells) = a at hsub e1 e2
  refine callK_just (d_x _ _) ?_
  refine new_tree rfl fun v3 hv3 => ?_
  have hsub := hsub.put (o := .cells (tree (xT 0)).cells) (hsub.isNone hv3)
  have e1 : upd a v3 (.cells (tree (xT 0)).cells) v1 = some (.cells (tree (Tr.fm [110, 97, 116] [])).cells) := by rw [upd_ne _ _ (fun e => by rw [e, hv3] at e1; cases e1)]; exact e1
  have e2 : upd a v3 (.cells (tree (xT 0)).cells) v2 = some (.cells (tree (Tr.const [122] [])).cells) := by rw [upd_ne _ _ (fun e => by rw [e, hv3] at e2; cases e2)]; exact e2
  have e3 := upd_same a v3 (.cells (tree (xT 0)).cells)
  generalize upd a v3 (.cells (tree (xT 0)).cells) = a at hsub e1 e2 e3
  refine callK_just (d_x _ _) ?_
  refine new_tree rfl fun v4 hv4 => ?_
  have hsub := hsub.put (o := .cells (tree (xT 1)).cells) (hsub.isNone hv4)
  have e1 : upd a v4 (.cells (tree (xT 1)).cells) v1 = some (.cells (tree (Tr.fm [110, 97, 116] [])).cells) := by rw [upd_ne _ _ (fun e => by rw [e, hv4] at e1; cases e1)]; exact e1
  have e2 : upd a v4 (.cells (tree (xT 1)).cells) v2 = some (.cells (tree (Tr.const [122] [])).cells) := by rw [upd_ne _ _ (fun e => by rw [e, hv4] at e2; cases e2)]; exact e2
  have e3 : upd a v4 (.cells (tree (xT 1)).cells) v3 = some (.cells (tree (xT 0)).cells) := by rw [upd_ne _ _ (fun e => by rw [e, hv4] at e3; cases e3)]; exact e3
  have e4 := upd_same a v4 (.cells (tree (xT 1)).cells)
  generalize upd a v4 (.cells (tree (xT 1)).cells) = a at hsub e1 e2 e3 e4
  refine callK_just (d_x _ _) ?_
  refine new_tree rfl fun v5 hv5 => ?_
  have hsub := hsub.put (o := .cells (tree (xT 2)).cells) (hsub.isNone hv5)
  have e1 : upd a v5 (.cells (tree (xT 2)).cells) v1 = some (.cells (tree (Tr.fm [110, 97, 116] [])).cells) := by rw [upd_ne _ _ (fun e => by rw [e, hv5] at e1; cases e1)]; exact e1
  have e2 : upd a v5 (.cells (tree (xT 2)).cells) v2 = some (.cells (tree (Tr.const [122] [])).cells) := by rw [upd_ne _ _ (fun e => by rw [e, hv5] at e2; cases e2)]; exact e2
  have e3 : upd a v5 (.cells (tree (xT 2)).cells) v3 = some (.cells (tree (xT 0)).cells) := by rw [upd_ne _ _ (fun e => by rw [e, hv5] at e3; cases e3)]; exact e3
  have e4 : upd a v5 (.cells (tree (xT 2)).cells) v4 = some (.cells (tree (xT 1)).cells) := by rw [upd_ne _ _ (fun e => by rw [e, hv5] at e4; cases e4)]; exact e4
  have e5 := upd_same a v5 (.cells (tree (xT 2)).cells)
  generalize upd a v5 (.cells (tree (xT 2)).cells) = a at hsub e1 e2 e3 e4 e5
  have l1 := load_tree e1
  have l2 := load_tree e2
  have l3 := load_tree e3
  have l4 := load_tree e4
  have l5 := load_tree e5
  clear e1 e2 e3 e4 e5 hv1 hv2 hv3 hv4 hv5
  repeat first
    | refine qb_of (by assumption) ?_
    | refine qb_of (lit_3 _ _ _) ?_
    | refine qb_of (lit_2 _ _) ?_
    | refine qb_of (lit_1 _) ?_
    | refine qb_of (q_d _ _) ?_
    | refine qb_of (q_f _ _) ?_
    | refine callK_just (d_pi _ _ _) ?_
    | refine callK_just (d_f1 _ _ _) ?_
    | refine callK_just (d_f3 _ _ _ _ _) ?_
    | refine callK_just (d_c1 _ _ _) ?_
    | refine callK_just (d_c2 _ _ _ _) ?_
    | refine callK_just (d_c0 _ _) ?_
    | refine callK_just (d_x _ _) ?_
    | refine callK_just (d_v1 _ _ _) ?_
    | refine callK_just (d_ty _) ?_
    | refine callK_just (h_spec_l01Lam _ _) ?_
    | refine ⟨by assumption, ?_⟩
  refine qb_of (x := .sl 6 true (numbersL.map decl)) (by simp [numbersL]; exact ⟨rfl, rfl, rfl, rfl, rfl, rfl, rfl, rfl, rfl, rfl, rfl, rfl⟩) ?_
  exact retR_conv (Conv.trans (Conv.sl_to _ 6 6 true _ (.inl rfl)) (Conv.sub hsub)) ⟨rfl, rfl⟩
theorem h_spec_Numbers (st : St) : HCalls prog n_spec_Numbers [] st (Just (decls numbersL) st) := by
  apply c_spec_Numbers
  unfold b_spec_Numbers
  refine callK_just (h_spec_l04Some st) ?_
  exact Just.ret (Sub.refl _)
end Go.H.Tryz
/- Contracts: the law FnFront. -/
set_option linter.unusedVariables false
set_option linter.unusedSimpArgs false
namespace Go.H.Tryz
open Go Go.H

end Go.H.Tryz
/- Contracts: the law FnChecks. -/
set_option linter.unusedVariables false
set_option linter.unusedSimpArgs false
namespace Go.H.Tryz
open Go Go.H

end Go.H.Tryz
/- Contracts: the law FnErase. -/
set_option linter.unusedVariables false
set_option linter.unusedSimpArgs false
namespace Go.H.Tryz
open Go Go.H

end Go.H.Tryz
/- Contracts: the law FnSubstChecks. -/
set_option linter.unusedVariables false
set_option linter.unusedSimpArgs false
namespace Go.H.Tryz
open Go Go.H

end Go.H.Tryz
/- Contracts: the law FnWeaken. -/
set_option linter.unusedVariables false
set_option linter.unusedSimpArgs false
namespace Go.H.Tryz
open Go Go.H

end Go.H.Tryz
