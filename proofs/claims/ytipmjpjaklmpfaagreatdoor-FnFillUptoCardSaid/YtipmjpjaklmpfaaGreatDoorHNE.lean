/- Part of a proof that the program answers as the reference does: ZGC154, ZGC155, ZGC156, ZGC140, ZGC141, ZGC142, ZGC143, ZGC144, ZGC150, ZGC151, ZGC152, ZGC153, ZGC157. -/
import Derived.Test.YtipmjpjaklmpfaaGreatDoorHY
import Derived.Test.YtipmjpjaklmpfaaGreatDoorHM
import Derived.Test.YtipmjpjaklmpfaaGreatDoorHF
import Derived.Test.YtipmjpjaklmpfaaGreatDoorHZ
set_option linter.unusedVariables false
set_option linter.unusedSimpArgs false
namespace Go.H.Tryz
open Go Go.H

def rn (hs sols : List Tr) (bc : Nat) (c : Int) : HObj := .cells [.sl 0 true [], trees hs, trees sols, .ptr bc 0, .int .i64 c]
def codeT : Int ⊕ Tr → Int
  | .inl c => c
  | .inr _ => 0
def treeT : Int ⊕ Tr → Tr
  | .inl _ => noTree
  | .inr t => t
def FillS (b bc : Nat) (hs sols : List Tr) (r : (Int ⊕ Tr) × Int) (st : St) : Res → St → Prop := fun q s => s = upd (upd st bc (cnt r.2)) b (rn hs sols bc (codeT r.1)) ∧ q = .ret (tree (treeT r.1))
structure FS (b bc v : Nat) (hs sols : List Tr) (st s : St) (c k : Int) : Prop where
  fb : s b = some (rn hs sols bc c)
  fc : s bc = some (cnt k)
  fz : s v = some (.cells [.int .i64 0, .int .i64 0, .str [], .sl 0 true []])
  ar : ∀ d o, d ≠ b → d ≠ bc → st d = some o → s d = some o
  n1 : v ≠ b
  n2 : v ≠ bc
  n3 : b ≠ bc
  n4 : st v = none
variable {b bc v : Nat} {hs sols : List Tr} {st s s' : St} {c k : Int}
theorem FS.grow (h : FS b bc v hs sols st s c k) (hs' : Sub s s') : FS b bc v hs sols st s' c k := ⟨hs' _ _ h.fb, hs' _ _ h.fc, hs' _ _ h.fz, fun d o h1 h2 h3 => hs' _ _ (h.ar d o h1 h2 h3), h.n1, h.n2, h.n3, h.n4⟩
theorem FS.turn (h : FS b bc v hs sols st s c k) (c' k' : Int) : FS b bc v hs sols st (upd (upd s bc (cnt k')) b (rn hs sols bc c')) c' k' := by
  refine ⟨upd_same _ _ _, ?_, ?_, fun d o h1 h2 h3 => ?_, h.n1, h.n2, h.n3, h.n4⟩
  · rw [upd_ne _ _ h.n3.symm]; exact upd_same _ _ _
  · rw [upd_ne _ _ h.n1, upd_ne _ _ h.n2]; exact h.fz
  · rw [upd_ne _ _ h1, upd_ne _ _ h2]; exact h.ar d o h1 h2 h3
theorem FS.count (h : FS b bc v hs sols st s c k) (k' : Int) : FS b bc v hs sols st (upd s bc (cnt k')) c k' := by
  refine ⟨?_, upd_same _ _ _, ?_, fun d o h1 h2 h3 => ?_, h.n1, h.n2, h.n3, h.n4⟩
  · rw [upd_ne _ _ h.n3]; exact h.fb
  · rw [upd_ne _ _ h.n2]; exact h.fz
  · rw [upd_ne _ _ h2]; exact h.ar d o h1 h2 h3
theorem FS.code (h : FS b bc v hs sols st s c k) (c' : Int) : FS b bc v hs sols st (upd s b (rn hs sols bc c')) c' k := by
  refine ⟨upd_same _ _ _, ?_, ?_, fun d o h1 h2 h3 => ?_, h.n1, h.n2, h.n3, h.n4⟩
  · rw [upd_ne _ _ h.n3.symm]; exact h.fc
  · rw [upd_ne _ _ h.n1]; exact h.fz
  · rw [upd_ne _ _ h1]; exact h.ar d o h1 h2 h3
theorem FS.put {d : Nat} (h : FS b bc v hs sols st s c k) (o : HObj) (hd : s d = none) : FS b bc v hs sols st (upd s d o) c k := by
  refine h.grow fun e oe he => ?_
  rw [upd_ne _ _ (ne_of he hd)]; exact he
theorem FS.over (h : FS b bc v hs sols st s c k) (o' : HObj) : Sub (upd (upd st bc (cnt k)) b (rn hs sols bc c)) (upd s v o') := fun d o hd => by
  by_cases h1 : d = b
  · subst h1
    rw [upd_same] at hd
    rw [upd_ne _ _ h.n1.symm, h.fb]; exact hd
  · rw [upd_ne _ _ h1] at hd
    by_cases h2 : d = bc
    · subst h2
      rw [upd_same] at hd
      rw [upd_ne _ _ h.n2.symm, h.fc]; exact hd
    · rw [upd_ne _ _ h2] at hd
      rw [upd_ne _ _ (ne_of hd h.n4)]
      exact h.ar d o h1 h2 hd
theorem FS.ok {r : (Int ⊕ Tr) × Int} {t : Tr} (h : FS b bc v hs sols st s 0 k) (hr : r = (.inr t, k)) :
    e_store s 4 (.ptr v 0) (tree t) fun st1 => qb (q_load st1 true 4 (.ptr v 0)) fun q => retR (FillS b bc hs sols r st) q st1 := by
  subst hr
  refine e_store_ptr h.fz (by rw [tree_cells]; rfl) (by simp) (tree_isJunk _) (by simp) ?_
  have e : setRange [.int .i64 0, .int .i64 0, .str [], .sl 0 true []] 0 (tree t).cells = (tree t).cells := by
    unfold setRange
    rw [List.take_zero, List.nil_append, List.drop_of_length_le (by simp), List.append_nil]
  rw [e]
  refine qb_of (x := tree t) ?_ ?_
  · rw [q_load_p (upd_same _ _ _), List.drop_zero]
    exact takeV_tree _
  · exact retR_sub (h.over _) ⟨rfl, rfl⟩
theorem FS.zero {r : (Int ⊕ Tr) × Int} (h : FS b bc v hs sols st s c k) (hr : r = (.inl c, k)) :
    qb (q_struct [PV.int IntKind.i64 0, PV.int IntKind.i64 0, PV.str [], PV.sl 0 true []] []) fun x => e_store s 4 (.ptr v 0) x fun st1 => qb (q_load st1 true 4 (.ptr v 0)) fun q => retR (FillS b bc hs sols r st) q st1 := by
  subst hr
  refine qb_of zeroT ?_
  refine e_store_ptr h.fz rfl rfl rfl (by simp) ?_
  refine qb_of (x := .agg [.int .i64 0, .int .i64 0, .str [], .sl 0 true []]) (by rw [q_load_p (upd_same _ _ _)]; rfl) ?_
  exact retR_conv (Conv.trans (conv_tree _ 0 0 [] 0 true [] (.inr rfl)) (Conv.sub (h.over _))) ⟨rfl, rfl⟩
theorem h_spec_l06Run_fail (st : St) (hb : st b = some (rn hs sols bc 0)) (c : Int) : HCalls prog n_spec_l06Run_fail [.ptr b 0, .int .i64 c] st (fun q s => s = upd st b (rn hs sols bc c) ∧ q = .ret (.tup [])) := by
  apply c_spec_l06Run_fail
  unfold b_spec_l06Run_fail
  refine qb_of (x := .ptr b 0) (by simp) ?_
  refine qb_of (x := .ptr b 4) (by simp [q_fa]) ?_
  refine qb_of (x := .int .i64 0) (by rw [q_load_p hb]; simp) ?_
  refine qb_of (x := .bool true) (by simp) ?_
  rw [cb_bool, br_true]
  refine qb_of (x := .ptr b 0) (by simp) ?_
  refine qb_of (x := .ptr b 4) (by simp [q_fa]) ?_
  refine e_store_ptr hb rfl rfl rfl (by simp) ?_
  exact retR_sub (Sub.refl _) ⟨rfl, rfl⟩
theorem callK_fillS {P : Program} {g : FuncId} {us : List PV} {K Kp : PV → St → Prop} {r : (Int ⊕ Tr) × Int} (hc : HCalls P g us st (FillS b bc hs sols r st)) (hk : K (tree (treeT r.1)) (upd (upd st bc (cnt r.2)) b (rn hs sols bc (codeT r.1)))) : callK P g us st K Kp := by
  refine callK_of hc (fun q st' h => ?_) (fun q st' h => ?_)
  · obtain ⟨rfl, h⟩ := h; cases h; exact hk
  · obtain ⟨_, h⟩ := h; cases h
theorem callK_failF {P : Program} {g : FuncId} {us : List PV} {K Kp : PV → St → Prop} (hc : HCalls P g us st (fun q s => s = upd st b (rn hs sols bc c) ∧ q = .ret (.tup []))) (hk : ∀ p, K p (upd st b (rn hs sols bc c))) : callK P g us st K Kp := by
  refine callK_of hc (fun q st' h => ?_) (fun q st' h => ?_)
  · obtain ⟨rfl, h⟩ := h; cases h; exact hk _
  · obtain ⟨_, h⟩ := h; cases h
def finF (hs sols : List Tr) (t : Tr) (ks : List Tr) (s : Int) : (Int ⊕ Tr) × Int :=
  if t.kind = 7 then redT (fun x a f s => subT 100000000 x a f 0 s) (sols.getD t.n.toNat noTree) (hs.getD t.n.toNat noTree) ks s
  else if (Tr.mk t.kind t.n t.name ks).big = true then (.inl 11, s) else (.inr (.mk t.kind t.n t.name ks), s)
def restF (N : Nat) (hs sols : List Tr) (t : Tr) (i : Nat) (ys rest : List Tr) (s : Int) : (Int ⊕ Tr) × Int :=
  match kidsT (fun _ x s => fillT N hs sols x s) i rest s with
  | (.inl c, s) => (.inl c, s)
  | (.inr ks, s) => finF hs sols t (ys ++ ks) s
theorem fillT_rest (N : Nat) (hs sols : List Tr) (t : Tr) (s : Int) : fillT (N + 1) hs sols t s = restF N hs sols t 0 [] t.kids s := by
  unfold fillT restF finF
  generalize kidsT (fun _ x s => fillT N hs sols x s) 0 t.kids s = r
  obtain ⟨x | ks, k⟩ := r <;> rfl
theorem restF_nil (N : Nat) (hs sols : List Tr) (t : Tr) (i : Nat) (ys : List Tr) (s : Int) : restF N hs sols t i ys [] s = finF hs sols t ys s := by
  unfold restF kidsT; simp
theorem restF_cons (N : Nat) (hs sols : List Tr) (t : Tr) (i : Nat) (ys : List Tr) (x : Tr) (r : List Tr) (s : Int) : restF N hs sols t i ys (x :: r) s = match fillT N hs sols x s with
    | (.inl c, s) => (.inl c, s)
    | (.inr y, s) => restF N hs sols t (i + 1) (ys ++ [y]) r s := by
  unfold restF
  rw [kidsT]
  obtain ⟨y | y, k⟩ := fillT N hs sols x s
  · rfl
  · simp only
    obtain ⟨z | z, k'⟩ := kidsT (fun _ x s => fillT N hs sols x s) (i + 1) r k
    · rfl
    · simp only [List.append_assoc, List.singleton_append]
set_option maxHeartbeats 1000000 in
theorem h_spec_l06Run_fill (b bc : Nat) (hbc : b ≠ bc) (hs sols : List Tr) (hS : Sols hs sols) (hsk : ∀ i : Nat, i < hs.length → (sols.getD i noTree).kind ≠ 0) : ∀ (N : Nat) (t : Tr) (k : Int) (st : St), t.size ≤ N → t.size ≤ 100000 → Kn hs.length t → t.lamy = true → 0 ≤ k → k ≤ 20000 → st b = some (rn hs sols bc 0) → st bc = some (cnt k) →
    HCalls prog n_spec_l06Run_fill [.ptr b 0, tree t] st (FillS b bc hs sols (fillT N hs sols t k) st) := by
  intro N
  induction N with
  | zero => intro t _ _ hN; have := t.size_pos; omega
  | succ N ih =>
  intro t k st hN hts hkn htl hk0 hk1 hb hc
  have hlen := t.kids_len
  have hsz := t.size_kids
  apply c_spec_l06Run_fill
  unfold b_spec_l06Run_fill
  generalize hv : fillT (N + 1) hs sols t k = r
  rw [fillT_rest] at hv
  refine e_box_ref (tree_isJunk _) ?_
  intro v4 hv4
  have h0 : FS b bc v4 hs sols st (upd st v4 (.cells [.int .i64 0, .int .i64 0, .str [], .sl 0 true []])) 0 k :=
    ⟨by rw [upd_ne _ _ (ne_of hb hv4)]; exact hb, by rw [upd_ne _ _ (ne_of hc hv4)]; exact hc, upd_same _ _ _, fun d o _ _ h => by rw [upd_ne _ _ (ne_of h hv4)]; exact h, (ne_of hb hv4).symm, (ne_of hc hv4).symm, hbc, hv4⟩
  generalize upd st v4 (.cells [.int .i64 0, .int .i64 0, .str [], .sl 0 true []]) = s0 at h0
  refine qb_of (x := .sl 4 true []) rfl ?_
  have ld : ∀ {s : St} {c k : Int}, FS b bc v4 hs sols st s c k → ∀ (j : Nat) (p : PV), ([PV.sl 0 true [], trees hs, trees sols, .ptr bc 0, .int .i64 c])[j]? = some p → takeV false 1 (([PV.sl 0 true [], trees hs, trees sols, .ptr bc 0, .int .i64 c]).drop j) = some p → q_load s false 1 (.ptr b j) = some p := fun h j p _ ht => by rw [q_load_p h.fb]; exact ht
  have l4 : ∀ {s : St} {c k : Int}, FS b bc v4 hs sols st s c k → q_load s false 1 (.ptr b 4) = some (.int .i64 c) := fun h => ld h 4 _ rfl rfl
  have f3 : q_fa 3 (.ref (tree t).cells) = some (.ref ((tree t).cells.drop 3)) := by simp [q_fa]
  have l3 : ∀ s : St, q_load s false 1 (.ref ((tree t).cells.drop 3)) = some (.sl 4 false (t.kids.map tree)) := fun s => by simp
  refine hJ_of fun J hJ => ?_
  refine loop_idx (β := PV × List Tr × Int × St × St) t.kids (fun z i => [z.1, .int .i64 (i : Int)]) (fun z => z.2.2.2.2)
    (fun z i rest => Grow z.2.2.2.1 4 (z.2.1.map tree) z.1 z.2.2.2.2 ∧ FS b bc v4 hs sols st z.2.2.2.1 0 z.2.2.1 ∧ 0 ≤ z.2.2.1 ∧ z.2.2.1 ≤ 20000 ∧ z.2.1.length = i ∧ (∀ y ∈ z.2.1, y.lamy = true ∧ y.big = false) ∧ restF N hs sols t i z.2.1 rest z.2.2.1 = r) ?_ ?_ (_, [], k, s0, s0) ⟨Grow.nil _ _ _, h0, hk0, hk1, rfl, by simp, hv⟩
  · rintro i x rest ⟨p, ys, k1, sb, s⟩ hi hx ⟨hg, hf, k0, k2, hyl, hys, hq⟩ kk
    simp only at hg hf k0 k2 hyl hys hq
    rw [restF_cons] at hq
    have hxm := List.mem_of_getElem? hx
    have hxs := Tr.kid_size hxm
    have hfs := hf.grow hg.sub
    have hfine := fillT_fine hS N x k1 (hkn.kids x hxm) (Tr.lamy_kids htl hxm) k0 k2 (by omega)
    refine qb_of f3 ?_
    refine qb_of (l3 _) ?_
    refine qb_of (x := .int .i64 (t.kids.length : Int)) (by simp) ?_
    refine qb_of (x := .bool true) (by simp [hi]) ?_
    rw [cb_bool, br_true]
    refine qb_of f3 ?_
    refine qb_of (l3 _) ?_
    refine qb_of (ia_tree .i64 hx) ?_
    refine qb_of (ltr _ _) ?_
    refine callK_fillS (ih x k1 s (by omega) (by omega) (hkn.kids x hxm) (Tr.lamy_kids htl hxm) k0 k2 hfs.fb hfs.fc) ?_
    have hf2 := hf.turn (codeT (fillT N hs sols x k1).1) (fillT N hs sols x k1).2
    have hg2 := (hg.store (cnt (fillT N hs sols x k1).2) hf.fc).store (rn hs sols bc (codeT (fillT N hs sols x k1).1)) (show upd sb bc (cnt (fillT N hs sols x k1).2) b = some (rn hs sols bc 0) by rw [upd_ne _ _ hbc]; exact hf.fb)
    refine qb_of (x := .sl 4 true [tree (treeT (fillT N hs sols x k1).1)]) (by simp) ?_
    refine hg2.append (ys := [tree (treeT (fillT N hs sols x k1).1)]) (elems_sl _ _ _ _) (by simp; omega) fun p' s1 hg3 => ?_
    refine qb_of (x := .ptr b 0) (by simp) ?_
    refine qb_of (x := .ptr b 4) (by simp [q_fa]) ?_
    have hf3 := hf2.grow hg3.sub
    refine qb_of (l4 hf3) ?_
    generalize hz : fillT N hs sols x k1 = z at *
    obtain ⟨e | y, k3⟩ := z
    · simp only at hq
      have he := hfine.2.2.1 e rfl
      refine qb_of (x := .bool true) (by simp [codeT, he]) ?_
      rw [cb_bool, br_true]
      exact hf3.zero hq.symm
    · simp only at hq
      obtain ⟨p1, _, _, p4⟩ := hfine
      obtain ⟨q1, q2, q3⟩ := p4 y rfl
      simp only at p1 q3
      refine qb_of (x := .bool false) (by simp [codeT]) ?_
      rw [cb_bool, br_false]
      refine qb_of (qinc (by omega)) ?_
      refine kk (p', ys ++ [y], k3, upd (upd sb bc (cnt k3)) b (rn hs sols bc 0), s1) ⟨by simp only [List.map_append, List.map_cons, List.map_nil]; exact hg3, hf2, by simp only; omega, q3, by simp [hyl], fun w hw => ?_, hq⟩
      rcases List.mem_append.1 hw with hw | hw
      · exact hys w hw
      · simp only [List.mem_singleton] at hw; subst hw; exact ⟨q1, q2⟩
  · rintro ⟨p, ys, k1, sb, s⟩ ⟨hg, hf, k0, k2, hyl, hys, hq⟩
    simp only at hg hf k0 k2 hyl hys hq
    rw [restF_nil] at hq
    unfold finF at hq
    refine qb_of f3 ?_
    refine qb_of (l3 _) ?_
    refine qb_of (x := .int .i64 (t.kids.length : Int)) (by simp) ?_
    refine qb_of (x := .bool false) (by simp) ?_
    rw [cb_bool, br_false]
    have hfs := hf.grow hg.sub
    have k0' : ∀ s : St, q_load s false 1 (.ref (tree t).cells) = some (.int .i64 t.kind) := fun s => by simp
    have f0 : q_fa 0 (.ref (tree t).cells) = some (.ref (tree t).cells) := by simp [q_fa]
    have f1 : q_fa 1 (.ref (tree t).cells) = some (.ref ((tree t).cells.drop 1)) := by simp [q_fa]
    have k1' : ∀ s : St, q_load s false 1 (.ref ((tree t).cells.drop 1)) = some (.int .i64 t.n) := fun s => by simp
    have pb : ∀ j, q_fa j (.ptr b 0) = some (.ptr b j) := fun j => by simp [q_fa]
    refine hJ _ _ ?_
    refine hJ_of fun J1 hJ1 => ?_
    have fillK : t.kind = 7 → J1 [.bool true] s := fun h7 => by
      rw [if_pos h7] at hq
      obtain ⟨n0, n1⟩ := hkn.hole h7
      obtain ⟨n, hn⟩ : ∃ n : Nat, t.n = (n : Int) := ⟨t.n.toNat, by omega⟩
      have hnl : n < hs.length := by omega
      rw [hn, Int.toNat_natCast] at hq
      obtain ⟨o1, o2, o3⟩ := hS.ok n hnl
      have hx1 : sols[n]? = some (sols.getD n noTree) := by rw [List.getD_eq_getElem?_getD, List.getElem?_eq_getElem (by rw [hS.len]; exact hnl)]; rfl
      have hx2 : hs[n]? = some (hs.getD n noTree) := by rw [List.getD_eq_getElem?_getD, List.getElem?_eq_getElem hnl]; rfl
      generalize hs.getD n noTree = A at *
      generalize sols.getD n noTree = F at *
      refine hJ1 _ _ ?_
      show cb (.bool true) _
      rw [cb_bool, br_true]
      refine hJ_of fun J2 hJ2 => ?_
      have okJ : ∀ (s' : St) (b7 : Nat) (y : Tr) (k3 : Int), (.inr y, k3) = r → FS b bc v4 hs sols st s' 0 k3 → s' b7 = some (.cells (tree y).cells) → J2 [.ptr b7 0, .int .i64 0] s' := fun s' b7 y k3 hr gf g7 => by
        refine hJ2 _ _ ?_
        refine qb_of (x := .bool false) (by simp) ?_
        rw [cb_bool, br_false]
        refine qb_of (x := tree y) (by show q_load s' true 4 (.ptr b7 0) = _; rw [q_load_p g7, List.drop_zero]; exact takeV_tree _) ?_
        exact gf.ok hr.symm
      have errJ : ∀ (s' : St) (q : PV) (e k3 : Int), e ≠ 0 → (.inl e, k3) = r → FS b bc v4 hs sols st s' 0 k3 → J2 [q, .int .i64 e] s' := fun s' q e k3 he hr gf => by
        refine hJ2 _ _ ?_
        refine qb_of (x := .bool true) (by simp [he]) ?_
        rw [cb_bool, br_true]
        refine callK_failF (h_spec_l06Run_fail s' gf.fb e) fun _ => ?_
        exact (gf.code e).zero hr.symm
      have e1 : ∀ {s : St} {c k : Int}, FS b bc v4 hs sols st s c k → q_load s false 1 (.ptr b 1) = some (trees hs) := fun h => ld h 1 _ rfl rfl
      have e2 : ∀ {s : St} {c k : Int}, FS b bc v4 hs sols st s c k → q_load s false 1 (.ptr b 2) = some (trees sols) := fun h => ld h 2 _ rfl rfl
      have e3 : ∀ {s : St} {c k : Int}, FS b bc v4 hs sols st s c k → q_load s false 1 (.ptr b 3) = some (.ptr bc 0) := fun h => ld h 3 _ rfl rfl
      have kn : ∀ s : St, q_load s false 1 (.ref ((tree t).cells.drop 1)) = some (.int .i64 (n : Int)) := fun s => by rw [k1', hn]
      refine qb_of (x := .ptr b 0) (by simp) ?_
      refine qb_of (pb 3) ?_
      refine qb_of (e3 hfs) ?_
      refine qb_of (x := .ptr b 0) (by simp) ?_
      refine qb_of (pb 2) ?_
      refine qb_of (e2 hfs) ?_
      refine qb_of f1 ?_
      refine qb_of (kn _) ?_
      refine qb_of (ia_tree .i64 hx1) ?_
      refine qb_of (ltr _ _) ?_
      refine qb_of (x := .ptr b 0) (by simp) ?_
      refine qb_of (pb 1) ?_
      refine qb_of (e1 hfs) ?_
      refine qb_of f1 ?_
      refine qb_of (kn _) ?_
      refine qb_of (ia_tree .i64 hx2) ?_
      refine qb_of (ltr _ _) ?_
      have hsub : SubsOK bc k1 (fun x a f s => subT 100000000 x a f 0 s) := fun x c' g k' s' g1 g2 g3 g4 g5 g6 g7 g8 => ⟨h_spec_l03Run_sub bc 100000000 x c' g 0 k' s' g1 g2 g3 g4 (by omega) (by omega) g7 (by omega) g8, subT_fine 100000000 x c' g 0 k' g1 g4 g3 (by omega) g7 (by omega)⟩
      have call : ∀ (s' : St) (hs' : s' bc = some (cnt k1)), HCalls prog n_spec_l03Run_reduce [.ptr bc 0, tree F, tree A, trees ys] s' (WorksS bc (redT (fun x a f s => subT 100000000 x a f 0 s) F A ys k1) s') := fun s' hs' =>
        h_spec_l03Run_reduce bc _ F A ys k1 hsub ⟨k0, k2⟩ o3 o1 o2 (fun x hx => ⟨(hys x hx).1, by have := small_size (hys x hx).2; omega⟩) (by omega) s' hs'
      have hfine : FineT (redT (fun x a f s => subT 100000000 x a f 0 s) F A ys k1) k1 := redT_fine (sub := fun x a f s => subT 100000000 x a f 0 s) ys F A k1 k2 o3 o1 o2 (fun x hx => (hys x hx).1) (sub_fineF k0)
      have stored : ∀ (s' : St) (d : Nat) (T : Tr) (K : St → Prop), s' d = some (.cells [.int .i64 0, .int .i64 0, .str [], .sl 0 true []]) → K (upd s' d (.cells (tree T).cells)) → e_store s' 4 (.ptr d 0) (tree T) K := fun s' d T K h1 h2 => by
        refine e_store_ptr h1 (by rw [tree_cells]; rfl) (by simp) (tree_isJunk _) (by simp) ?_
        have e : setRange [.int .i64 0, .int .i64 0, .str [], .sl 0 true []] 0 (tree T).cells = (tree T).cells := by
          unfold setRange
          rw [List.take_zero, List.nil_append, List.drop_of_length_le (by simp), List.append_nil]
        rw [e]; exact h2
      have twice : ∀ (s' : St) (d : Nat) (o o' : HObj), upd (upd s' d o) d o' = upd s' d o' := fun s' d o o' => by
        funext c; unfold upd; split <;> rfl
      refine ⟨?_, ?_⟩
      · refine callK_conv (us' := [.ptr bc 0, tree F, tree A, trees ys]) (st' := sb) (Conv.cons (Conv.sub hg.sub) (Conv.cons (Conv.sub hg.sub) (Conv.cons (Conv.sub hg.sub) hg.freeze))) ?_
        refine callK_worksS (call sb hf.fc) (fun y k3 hy => ?_) (fun e k3 he => ?_)
        · have hf2 := hf.count k3
          refine qb_of (x := tree y) rfl ?_
          refine qb_of (x := .int .i64 0) rfl ?_
          intro b7 hb7
          have hf3 := hf2.put (.cells [.int .i64 0, .int .i64 0, .str [], .sl 0 true []]) hb7
          refine ⟨ltr _ _, kn _, e1 hf3, ltr _ _, kn _, e2 hf3, e3 hf3, ?_⟩
          refine stored _ _ _ _ (upd_same _ _ _) ?_
          rw [twice]
          exact okJ _ b7 y k3 (by rw [← hq, hy]) (hf2.put _ hb7) (upd_same _ _ _)
        · have hf2 := hf.count k3
          rw [he] at hfine
          refine qb_of (x := tree noTree) rfl ?_
          refine qb_of (x := .int .i64 e) rfl ?_
          intro b7 hb7
          have hf3 := hf2.put (.cells [.int .i64 0, .int .i64 0, .str [], .sl 0 true []]) hb7
          refine ⟨ltr _ _, kn _, e1 hf3, ltr _ _, kn _, e2 hf3, e3 hf3, ?_⟩
          refine stored _ _ _ _ (upd_same _ _ _) ?_
          rw [twice]
          exact errJ _ _ e k3 (hfine.2.2.1 e rfl) (by rw [← hq, he]) (hf2.put _ hb7)
      · intro b7 hb7
        have hg2 := hg.beside (.cells [.int .i64 0, .int .i64 0, .str [], .sl 0 true []]) hb7
        have hb7' := hg.sub.isNone hb7
        have hfz := hfs.put (.cells [.int .i64 0, .int .i64 0, .str [], .sl 0 true []]) hb7
        have hf2 := hf.put (.cells [.int .i64 0, .int .i64 0, .str [], .sl 0 true []]) hb7'
        have nbc : b7 ≠ bc := (ne_of hf.fc hb7').symm
        refine ⟨ltr _ _, kn _, e1 hfz, ltr _ _, kn _, e2 hfz, e3 hfz, ?_⟩
        refine callK_conv (us' := [.ptr bc 0, tree F, tree A, trees ys]) (st' := upd sb b7 (.cells [.int .i64 0, .int .i64 0, .str [], .sl 0 true []])) (Conv.cons (Conv.sub hg2.sub) (Conv.cons (Conv.sub hg2.sub) (Conv.cons (Conv.sub hg2.sub) hg2.freeze))) ?_
        refine callK_worksS (call _ hf2.fc) (fun y k3 hy => ?_) (fun e k3 he => ?_)
        · refine qb_of (x := tree y) rfl ?_
          refine qb_of (x := .int .i64 0) rfl ?_
          rw [upd_comm _ _ _ nbc]
          refine stored _ _ _ _ (upd_same _ _ _) ?_
          rw [twice]
          exact okJ _ b7 y k3 (by rw [← hq, hy]) ((hf.count k3).put _ (by rw [upd_ne _ _ nbc]; exact hb7')) (upd_same _ _ _)
        · rw [he] at hfine
          refine qb_of (x := tree noTree) rfl ?_
          refine qb_of (x := .int .i64 e) rfl ?_
          rw [upd_comm _ _ _ nbc]
          refine stored _ _ _ _ (upd_same _ _ _) ?_
          rw [twice]
          exact errJ _ _ e k3 (hfine.2.2.1 e rfl) (by rw [← hq, he]) ((hf.count k3).put _ (by rw [upd_ne _ _ nbc]; exact hb7'))
    have plain : t.kind ≠ 7 → J1 [.bool false] s := fun h7 => by
      rw [if_neg h7] at hq
      refine hJ1 _ _ ?_
      show cb (.bool false) _
      rw [cb_bool, br_false]
      refine qb_of (ltr _ _) ?_
      refine callK_conv (us' := [tree t, trees ys]) (st' := sb) (Conv.cons (Conv.sub hg.sub) hg.freeze) ?_
      refine callK_just (h_spec_l01With t ys _) ?_
      intro v9 hv9
      refine e_store_ptr (upd_same _ _ _) (by rw [tree_cells]; rfl) (by simp) (tree_isJunk _) (by simp) ?_
      have e : setRange [.int .i64 0, .int .i64 0, .str [], .sl 0 true []] 0 (tree (.mk t.kind t.n t.name ys)).cells = (tree (.mk t.kind t.n t.name ys)).cells := by
        unfold setRange
        rw [List.take_zero, List.nil_append, List.drop_of_length_le (by simp), List.append_nil]
      rw [e, show upd (upd sb v9 (.cells [.int .i64 0, .int .i64 0, .str [], .sl 0 true []])) v9 (.cells (tree (.mk t.kind t.n t.name ys)).cells) = upd sb v9 (.cells (tree (.mk t.kind t.n t.name ys)).cells) by funext c; unfold upd; split <;> rfl]
      have hf2 := hf.put (.cells (tree (.mk t.kind t.n t.name ys)).cells) hv9
      have l9 : q_load (upd sb v9 (.cells (tree (.mk t.kind t.n t.name ys)).cells)) true 4 (.ptr v9 0) = some (tree (.mk t.kind t.n t.name ys)) := by rw [q_load_p (upd_same _ _ _), List.drop_zero]; exact takeV_tree _
      refine qb_of l9 ?_
      refine callK_just (h_spec_l03Big _ _) ?_
      cases hbig : (Tr.mk t.kind t.n t.name ys).big with
      | true =>
        rw [if_pos hbig] at hq
        rw [cb_bool, br_true]
        refine callK_failF (h_spec_l06Run_fail _ hf2.fb 11) fun _ => ?_
        exact (hf2.code 11).zero hq.symm
      | false =>
        rw [if_neg (by rw [hbig]; decide)] at hq
        rw [cb_bool, br_false]
        refine qb_of l9 ?_
        exact hf2.ok hq.symm
    refine qb_of f0 ?_
    refine qb_of (k0' _) ?_
    refine qb_of (x := .bool (decide (t.kind = 7))) (by simp) ?_
    refine cbr_dec (fun h7 => ?_) (fun h7 => plain h7)
    obtain ⟨n0, n1⟩ := hkn.hole h7
    obtain ⟨n, hn⟩ : ∃ n : Nat, t.n = (n : Int) := ⟨t.n.toNat, by omega⟩
    have hnl : n < hs.length := by omega
    have hx1 : sols[n]? = some (sols.getD n noTree) := by rw [List.getD_eq_getElem?_getD, List.getElem?_eq_getElem (by rw [hS.len]; exact hnl)]; rfl
    refine qb_of (x := .ptr b 0) (by simp) ?_
    refine qb_of (pb 2) ?_
    refine qb_of (x := trees sols) (ld hfs 2 _ rfl rfl) ?_
    refine qb_of f1 ?_
    refine qb_of (k1' _) ?_
    rw [hn]
    refine qb_of (ia_tree .i64 hx1) ?_
    refine qb_of (x := .ref (tree (sols.getD n noTree)).cells) (by simp [q_fa]) ?_
    refine qb_of (x := .int .i64 (sols.getD n noTree).kind) (by simp) ?_
    refine qb_of (x := .bool true) (by simpa using hsk n hnl) ?_
    exact fillK h7
end Go.H.Tryz
set_option linter.unusedVariables false
set_option linter.unusedSimpArgs false
namespace Go.H.Tryz
open Go Go.H

theorem h_spec_l03SpineF (ts : List Tr) (hl : ts.length ≤ 1000000) (st : St) : HCalls prog n_spec_l03Spine [trees ts] st (Just (.bool (ts.all Tr.termOK)) st) := by
  apply c_spec_l03Spine
  unfold b_spec_l03Spine
  generalize hv : ts.all Tr.termOK = v
  refine loop_list ts (fun i => [.int .i64 (i : Int)]) st (fun rest => rest.all Tr.termOK = v) ?_ ?_ hv
  · intro i x rest hi hx hq k
    rw [List.all_cons] at hq
    refine qb_of (x := .int .i64 (ts.length : Int)) (by simp) ?_
    refine qb_of (x := .bool true) (by simp [hi]) ?_
    rw [cb_bool, br_true]
    refine qb_of (ia_tree .i64 hx) ?_
    refine qb_of (ltr _ _) ?_
    refine callK_just (h_spec_TermOK x _) ?_
    refine qb_of (x := .bool (!x.termOK)) (by simp) ?_
    rw [cb_bool]
    refine br_of (fun h => ?_) (fun h => ?_)
    · refine Just.bool ?_
      rw [← hq]
      cases hx : x.termOK <;> simp_all
    · refine qb_of (qinc (by omega)) ?_
      refine k ?_
      rw [← hq]
      cases hx : x.termOK <;> simp_all
  · intro hq
    refine qb_of (x := .int .i64 (ts.length : Int)) (by simp) ?_
    refine qb_of (x := .bool false) (by simp) ?_
    rw [cb_bool, br_false]
    exact Just.bool hq
theorem h_spec_l06Known (n : Nat) (t : Tr) (hk : Kn n t) (hsz : t.size ≤ 1000000) (st : St) : HCalls prog n_spec_l06Known [tree t, .int .i64 (n : Int)] st (Just (.bool true) st) := by
  induction t using Tr.ind generalizing st with
  | _ t ih =>
  have hl := t.kids_len
  have f3 : q_fa 3 (.ref (tree t).cells) = some (.ref ((tree t).cells.drop 3)) := by simp [q_fa]
  have l3 : ∀ s : St, q_load s false 1 (.ref ((tree t).cells.drop 3)) = some (.sl 4 false (t.kids.map tree)) := fun s => by simp
  apply c_spec_l06Known
  unfold b_spec_l06Known
  refine e_box_ref (tree_isJunk _) ?_
  refine hJ_of fun J hJ => ?_
  have main : J [.bool false] st := by
    refine hJ _ _ ?_
    show cb (.bool false) _
    rw [cb_bool, br_false]
    refine loop_list t.kids (fun i => [.int .i64 (i : Int)]) st (fun _ => True) ?_ ?_ trivial
    · intro i x rest hi hx _ k
      have hxm := List.mem_of_getElem? hx
      refine qb_of f3 ?_
      refine qb_of (l3 _) ?_
      refine qb_of (x := .int .i64 (t.kids.length : Int)) (by simp) ?_
      refine qb_of (x := .bool true) (by simp [hi]) ?_
      rw [cb_bool, br_true]
      refine qb_of f3 ?_
      refine qb_of (l3 _) ?_
      refine qb_of (ia_tree .i64 hx) ?_
      refine qb_of (ltr _ _) ?_
      refine callK_just (ih x hxm (hk.kids x hxm) (by have := Tr.kid_size hxm; omega) _) ?_
      refine qb_of (x := .bool false) (by simp) ?_
      rw [cb_bool, br_false]
      refine qb_of (qinc (by omega)) ?_
      exact k trivial
    · intro _
      refine qb_of f3 ?_
      refine qb_of (l3 _) ?_
      refine qb_of (x := .int .i64 (t.kids.length : Int)) (by simp) ?_
      refine qb_of (x := .bool false) (by simp) ?_
      rw [cb_bool, br_false]
      exact Just.bool rfl
  refine qb_of (x := .ref (tree t).cells) (by simp [q_fa]) ?_
  refine qb_of (x := .int .i64 t.kind) (by simp) ?_
  refine qb_of (x := .bool (decide (t.kind = 7))) (by simp) ?_
  refine cbr_dec (fun h7 => ?_) (fun h7 => main)
  have := hk.hole h7
  refine qb_of (x := .ref ((tree t).cells.drop 1)) (by simp [q_fa]) ?_
  refine qb_of (x := .int .i64 t.n) (by simp) ?_
  refine qb_of (x := .bool false) (by simp; omega) ?_
  exact main
theorem h_spec_l02Closed (t : Tr) (d : Int) (hk : Clo d t) (hd : 0 ≤ d) (hsz : d + t.size ≤ 1000000) (st : St) : HCalls prog n_spec_l02Closed [tree t, .int .i64 d] st (Just (.bool true) st) := by
  induction t using Tr.ind generalizing st d with
  | _ t ih =>
  have hl := t.kids_len
  have f3 : q_fa 3 (.ref (tree t).cells) = some (.ref ((tree t).cells.drop 3)) := by simp [q_fa]
  have l3 : ∀ s : St, q_load s false 1 (.ref ((tree t).cells.drop 3)) = some (.sl 4 false (t.kids.map tree)) := fun s => by simp
  apply c_spec_l02Closed
  unfold b_spec_l02Closed
  refine e_box_ref (tree_isJunk _) ?_
  refine hJ_of fun J hJ => ?_
  have main : J [.bool false] st := by
    refine hJ _ _ ?_
    show cb (.bool false) _
    rw [cb_bool, br_false]
    refine loop_list t.kids (fun i => [.int .i64 (i : Int)]) st (fun _ => True) ?_ ?_ trivial
    · intro i x rest hi hx _ k
      have hxm := List.mem_of_getElem? hx
      have hxs := Tr.kid_size hxm
      obtain ⟨u0, u1⟩ := under_le t i
      refine qb_of f3 ?_
      refine qb_of (l3 _) ?_
      refine qb_of (x := .int .i64 (t.kids.length : Int)) (by simp) ?_
      refine qb_of (x := .bool true) (by simp [hi]) ?_
      rw [cb_bool, br_true]
      refine qb_of f3 ?_
      refine qb_of (l3 _) ?_
      refine qb_of (ia_tree .i64 hx) ?_
      refine qb_of (ltr _ _) ?_
      refine qb_of (ltr _ _) ?_
      refine callK_just (h_spec_l01Under t i _) ?_
      refine ⟨ltr _ _, l3 _, ?_⟩
      refine qb_of (x := .int .i64 (d + t.under i)) (by simp; rw [wrap64 (by omega) (by omega)]) ?_
      refine callK_just (ih x hxm (d + t.under i) (hk.kids i x hx) (by omega) (by omega) _) ?_
      refine qb_of (x := .bool false) (by simp) ?_
      rw [cb_bool, br_false]
      refine qb_of (qinc (by omega)) ?_
      exact k trivial
    · intro _
      refine qb_of f3 ?_
      refine qb_of (l3 _) ?_
      refine qb_of (x := .int .i64 (t.kids.length : Int)) (by simp) ?_
      refine qb_of (x := .bool false) (by simp) ?_
      rw [cb_bool, br_false]
      exact Just.bool rfl
  refine qb_of (x := .ref (tree t).cells) (by simp [q_fa]) ?_
  refine qb_of (x := .int .i64 t.kind) (by simp) ?_
  refine qb_of (x := .bool (decide (t.kind = 5))) (by simp) ?_
  refine cbr_dec (fun h5 => ?_) (fun h5 => main)
  have := hk.var h5
  refine qb_of (x := .ref ((tree t).cells.drop 1)) (by simp [q_fa]) ?_
  refine qb_of (x := .int .i64 t.n) (by simp) ?_
  refine qb_of (x := .bool false) (by simp; omega) ?_
  exact main
theorem h_spec_Fill (hs sols : List Tr) (t : Tr) (h : Fills hs sols t) (st : St) : HCalls prog n_spec_Fill [trees hs, trees sols, tree t] st (ResultS (fillT t.size hs sols t 0).1 st) := by
  obtain ⟨hS, hhl, hsim, hri, hcl, hok, hkn, hlam⟩ := h
  obtain ⟨_, hts, _, _, _⟩ := termOK_big hok
  have hlen := hS.len
  apply c_spec_Fill
  unfold b_spec_Fill
  refine e_box_ref (tree_isJunk _) ?_
  refine (Held.start st).alloc fun v6 s0 h0 => ?_
  refine hJ_of fun J hJ => ?_
  refine qb_of (x := .int .i64 (hs.length : Int)) (by simp) ?_
  refine qb_of (x := .bool false) (by simp; omega) ?_
  rw [cb_bool, br_false]
  refine qb_of (x := .int .i64 (sols.length : Int)) (by simp) ?_
  refine qb_of (x := .bool false) (by simp; omega) ?_
  refine hJ _ _ ?_
  show cb (.bool false) _
  rw [cb_bool, br_false]
  refine hJ_of fun J1 hJ1 => ?_
  refine callK_just (h_spec_l03Simples hs 20 _) ?_
  rw [hsim]
  refine qb_of (x := .bool false) (by simp) ?_
  rw [cb_bool, br_false]
  refine qb_of (x := .int .i64 (sols.length : Int)) (by simp) ?_
  refine qb_of (x := .int .i64 (hs.length : Int)) (by simp) ?_
  refine qb_of (x := .bool false) (by simp; omega) ?_
  rw [cb_bool, br_false]
  refine callK_just (h_spec_l03SpineF sols (by omega) _) ?_
  rw [List.all_eq_true.2 hri]
  refine qb_of (x := .bool false) (by simp) ?_
  rw [cb_bool, br_false]
  refine qb_of (ltr _ _) ?_
  refine callK_just (h_spec_TermOK t _) ?_
  rw [hok]
  refine qb_of (x := .bool false) (by simp) ?_
  refine hJ1 _ _ ?_
  show cb (.bool false) _
  rw [cb_bool, br_false]
  refine hJ_of fun J2 hJ2 => ?_
  refine loop_list sols (fun i => [.int .i64 (i : Int)]) s0 (fun _ => True) ?_ ?_ trivial
  · intro i x rest hi hx _ k
    have hxm := List.mem_of_getElem? hx
    obtain ⟨_, hxs, _, _, _⟩ := termOK_big (hri x hxm)
    refine qb_of (x := .int .i64 (sols.length : Int)) (by simp) ?_
    refine qb_of (x := .bool true) (by simp [hi]) ?_
    rw [cb_bool, br_true]
    refine qb_of (ia_tree .i64 hx) ?_
    refine qb_of (ltr _ _) ?_
    refine callK_just (h_spec_l02Closed x 0 (hcl x hxm) (by omega) (by omega) _) ?_
    refine qb_of (x := .bool false) (by simp) ?_
    rw [cb_bool, br_false]
    refine qb_of (qinc (by omega)) ?_
    exact k trivial
  · intro _
    refine qb_of (x := .int .i64 (sols.length : Int)) (by simp) ?_
    refine qb_of (x := .bool false) (by simp) ?_
    rw [cb_bool, br_false]
    refine hJ2 _ _ ?_
    refine qb_of (ltr _ _) ?_
    refine qb_of (x := .int .i64 (hs.length : Int)) (by simp) ?_
    refine callK_just (h_spec_l06Known hs.length t hkn (by omega) _) ?_
    refine qb_of (x := .bool false) (by simp) ?_
    rw [cb_bool, br_false]
    refine qb_of (x := .agg [.int .i64 0]) rfl ?_
    refine e_box_own rfl fun bc hbc => ?_
    refine qb_of (x := .agg [.sl 0 true [], trees hs, trees sols, .ptr bc 0, .int .i64 0]) (by rfl) ?_
    refine e_box_own rfl fun b hb => ?_
    have nb : b ≠ bc := fun e => by rw [e, upd_same] at hb; cases hb
    refine qb_of (ltr _ _) ?_
    refine callK_fillS (h_spec_l06Run_fill b bc nb hs sols hS (fun i hi => (termOK_big (hri _ (by
      have hl : i < sols.length := by omega
      rw [List.getD_eq_getElem?_getD, List.getElem?_eq_getElem hl]; exact List.getElem_mem hl))).2.2.2.1) t.size t 0 _ (Nat.le_refl _) (by omega) hkn hlam (by omega) (by omega) (upd_same _ _ _) (by rw [upd_ne _ _ nb.symm]; exact upd_same _ _ _)) ?_
    generalize hr : (fillT t.size hs sols t 0) = r
    have hfine := fillT_fine hS t.size t 0 hkn hlam (by omega) (by omega) (Nat.le_refl _)
    rw [hr] at hfine
    have hsubW : Sub s0 (upd (upd (upd (upd s0 bc (cnt 0)) b (rn hs sols bc 0)) bc (cnt r.2)) b (rn hs sols bc (codeT r.1))) := fun c o hc => by
      rw [upd_ne _ _ nb] at hb
      have n1 : c ≠ b := ne_of hc hb
      have n2 : c ≠ bc := ne_of hc hbc
      rw [upd_ne _ _ n1, upd_ne _ _ n2, upd_ne _ _ n1, upd_ne _ _ n2]; exact hc
    have hWb := upd_same (upd (upd (upd s0 bc (cnt 0)) b (rn hs sols bc 0)) bc (cnt r.2)) b (rn hs sols bc (codeT r.1))
    have h1 := h0.grow hsubW
    show e_alloc (upd (upd (upd (upd s0 bc (cnt 0)) b (rn hs sols bc 0)) bc (cnt r.2)) b (rn hs sols bc (codeT r.1))) _ _
    generalize upd (upd (upd (upd s0 bc (cnt 0)) b (rn hs sols bc 0)) bc (cnt r.2)) b (rn hs sols bc (codeT r.1)) = W at hWb h1
    have hb0 : s0 b = none := by rw [upd_ne _ _ nb] at hb; exact hb
    have z6 : s0 v6 = some (.cells [.int .i64 0, .int .i64 0, .str [], .sl 0 true []]) := h0.zat (v6, _) (by simp)
    have n6 : b ≠ v6 := (ne_of z6 hb0).symm
    have h2 : Held st W [(b, .agg [.sl 0 true [], trees hs, trees sols, .ptr bc 0, .int .i64 (codeT r.1)])] [(v6, [.int .i64 0, .int .i64 0, .str [], .sl 0 true []])] :=
      ⟨h1.sub, fun x hx => by simp only [List.mem_singleton] at hx; subst hx; exact hWb, h1.zat, by simp [n6], fun c hc => by
        simp only [List.map_cons, List.map_nil, List.cons_append, List.nil_append, List.mem_cons, List.not_mem_nil, or_false] at hc
        rcases hc with rfl | rfl
        · cases hst : st c with
          | none => rfl
          | some o => rw [h0.sub _ _ hst] at hb0; cases hb0
        · exact h1.out c (by simp)⟩
    clear h1 hWb hb hbc hsubW
    refine h2.alloc fun v10 w3 h3 => ?_
    refine h3.store2 (Box.tree _) rfl fun w4 h4 => ?_
    have l4 : ∀ {w : St} {L : List (Nat × PV)} {P : List (Nat × List PV)}, Held st w L P → (b, PV.agg [.sl 0 true [], trees hs, trees sols, .ptr bc 0, .int .i64 (codeT r.1)]) ∈ L → q_load w false 1 (.ptr b 4) = some (.int .i64 (codeT r.1)) := fun h hm => by rw [q_load_p (h.got _ hm)]; rfl
    refine qb_of (x := .ptr b 0) (by simp) ?_
    refine qb_of (x := .ptr b 4) (by simp [q_fa]) ?_
    refine qb_of (l4 h4 (by simp)) ?_
    obtain ⟨x, k⟩ := r
    cases x with
    | inl c =>
      have hc0 := hfine.2.2.1 c rfl
      refine qb_of (x := .bool true) (by simp [codeT, hc0]) ?_
      rw [cb_bool, br_true]
      refine qb_of zeroT ?_
      refine qb_of (x := .ptr b 0) (by simp) ?_
      refine qb_of (x := .ptr b 4) (by simp [q_fa]) ?_
      refine qb_of (l4 h4 (by simp)) ?_
      refine h4.store ⟨_, rfl, rfl, rfl⟩ rfl fun w5 h5 => ?_
      refine ⟨l4 h5 (by simp), ?_⟩
      refine qb_of (h5.top ⟨_, rfl, rfl, rfl⟩) ?_
      exact ResultS.zero rfl h5.sub
    | inr u =>
      refine qb_of (x := .bool false) (by simp [codeT]) ?_
      rw [cb_bool, br_false]
      refine qb_of (h4.top (Box.tree _)) ?_
      refine h4.store (Box.tree _) rfl fun w5 h5 => ?_
      refine qb_of (h5.top (Box.tree _)) ?_
      exact ResultS.ok rfl h5.sub
end Go.H.Tryz
set_option linter.unusedVariables false
set_option linter.unusedSimpArgs false
namespace Go.H.Tryz
open Go Go.H

theorem h_impl_closed_1 (t : Tr) (d : Int) (st : St) : HCalls prog n_impl_closed_1 [.ref (tree t).cells, .int .i64 d] st (Just (.bool (closedP t d)) st) := by
  apply c_impl_closed_1
  unfold b_impl_closed_1 closedP
  refine qb_of (x := .ref (tree t).cells) (by simp) ?_
  refine qb_of (x := .ref (tree t).cells) (by simp [q_fa]) ?_
  refine qb_of (x := .int .i64 t.kind) (by simp) ?_
  refine qb_of (x := .bool (decide (t.kind = 5))) (by simp) ?_
  refine cbr_dec (fun h5 => ?_) (fun h5 => ?_)
  · refine qb_of (x := .ref (tree t).cells) (by simp) ?_
    refine qb_of (x := .ref ((tree t).cells.drop 1)) (by simp [q_fa]) ?_
    refine qb_of (x := .int .i64 t.n) (by simp) ?_
    refine qb_of (x := .bool (decide (d ≤ t.n))) (by simp) ?_
    exact Just.bool (by rw [decide_eq_true h5]; rfl)
  · exact Just.bool (by rw [decide_eq_false h5]; rfl)
theorem h_impl_closed (t : Tr) (h : Clo 0 t) (hs : t.size ≤ 1000000) (st : St) : HCalls prog n_impl_closed [tree t] st (Just (.bool true) st) := by
  apply c_impl_closed
  unfold b_impl_closed
  refine e_box_ref (tree_isJunk _) ?_
  refine callK_just (h_impl_Tree_each closedP n_impl_closed_1 [] [] t 0 (by omega) (fun _ => True) (fun _ _ _ _ => trivial) trivial st (fun t d _ => by simpa using h_impl_closed_1 t d st)) ?_
  rw [h.each (by omega) (by omega)]
  refine qb_of (x := .bool true) (by simp) ?_
  exact Just.bool rfl
theorem h_impl_Fill_1 (t : Tr) (h : Clo 0 t) (hs : t.size ≤ 1000000) (st : St) : HCalls prog n_impl_Fill_1 [tree t] st (Just (.bool false) st) := by
  apply c_impl_Fill_1
  unfold b_impl_Fill_1
  refine e_box_ref (tree_isJunk _) ?_
  refine qb_of (ltr _ _) ?_
  refine callK_just (h_impl_closed t h hs st) ?_
  refine qb_of (x := .bool false) (by simp) ?_
  exact Just.bool rfl
theorem h_impl_Fill_2 (hs : List Tr) (t : Tr) (d : Int) (st : St) : HCalls prog n_impl_Fill_2 [.ref (tree t).cells, .int .i64 d, .ref [trees hs]] st (Just (.bool (holeP hs.length t d)) st) := by
  apply c_impl_Fill_2
  unfold b_impl_Fill_2 holeP
  refine qb_of (x := .ref (tree t).cells) (by simp) ?_
  refine qb_of (x := .ref (tree t).cells) (by simp [q_fa]) ?_
  refine qb_of (x := .int .i64 t.kind) (by simp) ?_
  refine qb_of (x := .bool (decide (t.kind = 7))) (by simp) ?_
  refine cbr_dec (fun h5 => ?_) (fun h5 => ?_)
  · refine qb_of (x := .ref (tree t).cells) (by simp) ?_
    refine qb_of (x := .ref ((tree t).cells.drop 1)) (by simp [q_fa]) ?_
    refine qb_of (x := .int .i64 t.n) (by simp) ?_
    refine qb_of (x := trees hs) rfl ?_
    refine qb_of (x := .int .i64 (hs.length : Int)) (by simp) ?_
    refine qb_of (x := .bool (decide ((hs.length : Int) ≤ t.n))) (by simp) ?_
    exact Just.bool (by rw [decide_eq_true h5]; rfl)
  · exact Just.bool (by rw [decide_eq_false h5]; rfl)
theorem h_impl_Fill_3_1 (hs sols : List Tr) (n : Nat) (hn : n < hs.length) (hl : sols.length = hs.length) (st : St) : HCalls prog n_impl_Fill_3_1 [.int .i64 (n : Int), .ref [trees sols], .ref [trees hs]] st (Just (.tup [tree (sols.getD n noTree), tree (hs.getD n noTree), .bool true]) st) := by
  have hx1 : sols[n]? = some (sols.getD n noTree) := by rw [List.getD_eq_getElem?_getD, List.getElem?_eq_getElem (by omega)]; rfl
  have hx2 : hs[n]? = some (hs.getD n noTree) := by rw [List.getD_eq_getElem?_getD, List.getElem?_eq_getElem hn]; rfl
  apply c_impl_Fill_3_1
  unfold b_impl_Fill_3_1
  refine (Held.start st).alloc fun v4 w1 h1 => ?_
  refine h1.alloc fun v5 w2 h2 => ?_
  refine qb_of (x := trees sols) rfl ?_
  refine qb_of (ia_tree .i64 hx1) ?_
  refine qb_of (ltr _ _) ?_
  refine qb_of (x := trees hs) rfl ?_
  refine qb_of (ia_tree .i64 hx2) ?_
  refine qb_of (ltr _ _) ?_
  refine h2.store (Box.tree _) rfl fun w3 h3 => ?_
  refine ⟨ltr _ _, rfl, ?_⟩
  refine h3.store (Box.tree _) rfl fun w4 h4 => ?_
  refine qb_of (h4.load (Box.tree (sols.getD n noTree)) (v := v4) (by simp)) ?_
  refine qb_of (h4.load (Box.tree (hs.getD n noTree)) (v := v5) (by simp)) ?_
  exact Just.ret h4.sub
structure FW (b v u : Nat) (t : Tr) (st s : St) (k : Int) : Prop where
  fb : s b = some (cntR [] k)
  fv : s v = some (.cells (tree t).cells)
  fu : s u = some (.cells [.int .i64 0, .int .i64 0, .str [], .sl 0 true []])
  ar : Around b st s
  n1 : v ≠ b
  n2 : u ≠ b
  n3 : u ≠ v
  s1 : st v = none
  s2 : st u = none
variable {b v u : Nat} {t : Tr} {hs sols : List Tr} {st s s' : St} {k : Int}
theorem FW.grow (h : FW b v u t st s k) (hs' : Sub s s') : FW b v u t st s' k := ⟨hs' _ _ h.fb, hs' _ _ h.fv, hs' _ _ h.fu, h.ar.more hs', h.n1, h.n2, h.n3, h.s1, h.s2⟩
theorem FW.count (h : FW b v u t st s k) (k' : Int) : FW b v u t st (upd s b (cntR [] k')) k' :=
  ⟨upd_same _ _ _, by rw [upd_ne _ _ h.n1]; exact h.fv, by rw [upd_ne _ _ h.n2]; exact h.fu, h.ar.draw _, h.n1, h.n2, h.n3, h.s1, h.s2⟩
theorem FW.put {d : Nat} (h : FW b v u t st s k) (o : HObj) (hd : s d = none) : FW b v u t st (upd s d o) k :=
  h.grow fun e oe he => by rw [upd_ne _ _ (ne_of he hd)]; exact he
theorem e_store_zero {w : St} {d : Nat} {T : Tr} {K : St → Prop} (h : w d = some (.cells [.int .i64 0, .int .i64 0, .str [], .sl 0 true []])) (hk : K (upd w d (.cells (tree T).cells))) : e_store w 4 (.ptr d 0) (tree T) K := by
  refine e_store_ptr h (by rw [tree_cells]; rfl) (by simp) (tree_isJunk _) (by simp) ?_
  have e : setRange [.int .i64 0, .int .i64 0, .str [], .sl 0 true []] 0 (tree T).cells = (tree T).cells := by
    unfold setRange
    rw [List.take_zero, List.nil_append, List.drop_of_length_le (by simp), List.append_nil]
  rw [e]; exact hk
theorem ld_tree {w : St} {d : Nat} {T : Tr} (h : w d = some (.cells (tree T).cells)) : q_load w true 4 (.ptr d 0) = some (tree T) := by
  rw [q_load_p h, List.drop_zero]; exact takeV_tree _
theorem FW.done {r : (Int ⊕ Tr) × Int} {T : Tr} (h : FW b v u t st s k) (hr : (.inr T, k) = r) :
    e_store s 4 (.ptr u 0) (tree T) fun st1 => qb (q_load st1 true 4 (.ptr u 0)) fun q => retR (WorksR [] ty_impl_halt b r st) q st1 := by
  refine e_store_zero h.fu ?_
  refine qb_of (ld_tree (upd_same _ _ _)) ?_
  exact WorksR.ret hr (h.ar.put h.s2 _) (by rw [upd_ne _ _ h.n2.symm]; exact h.fb)
set_option maxHeartbeats 1000000 in
theorem h_impl_work_fill (b : Nat) (hs sols : List Tr) (hS : Sols hs sols) : ∀ (N : Nat) (t : Tr) (k : Int) (st : St), t.size ≤ N → t.size ≤ 100000 → Kn hs.length t → t.lamy = true → 0 ≤ k → k ≤ 20000 → st b = some (cntR [] k) →
    HCalls prog n_impl_work_fill [.ptr b 0, tree t, .fn (.func n_impl_Fill_3_1) [] [.ref [trees sols], .ref [trees hs]]] st (WorksR [] ty_impl_halt b (fillT N hs sols t k) st) := by
  intro N
  induction N with
  | zero => intro t _ _ hN; have := t.size_pos; omega
  | succ N ih =>
  intro t k st hN hts hkn htl hk0 hk1 hb
  have hlen := t.kids_len
  have hsz := t.size_kids
  apply c_impl_work_fill
  unfold b_impl_work_fill
  generalize hv : fillT (N + 1) hs sols t k = r
  rw [fillT_rest] at hv
  refine e_box_own (tree_isJunk _) fun v hvn => ?_
  have n1 : v ≠ b := (ne_of hb hvn).symm
  intro u hun
  have h0 : FW b v u t st (upd (upd st v (.cells (tree t).cells)) u (.cells [.int .i64 0, .int .i64 0, .str [], .sl 0 true []])) k := by
    have n3 : u ≠ v := fun e => by rw [e, upd_same] at hun; cases hun
    rw [upd_ne _ _ n3] at hun
    have n2 : u ≠ b := (ne_of hb hun).symm
    exact ⟨by rw [upd_ne _ _ n2.symm, upd_ne _ _ n1.symm]; exact hb, by rw [upd_ne _ _ n3.symm]; exact upd_same _ _ _, upd_same _ _ _, ((Around.refl b st).put hvn _).put hun _, n1, n2, n3, hvn, hun⟩
  generalize upd (upd st v (.cells (tree t).cells)) u (.cells [.int .i64 0, .int .i64 0, .str [], .sl 0 true []]) = s0 at h0
  have tc := tree_cells t
  have l3 : ∀ {s : St} {k : Int}, FW b v u t st s k → q_load s false 1 (.ptr v 3) = some (.sl 4 false (t.kids.map tree)) := fun h => by rw [q_load_p h.fv, tc]; rfl
  have l0 : ∀ {s : St} {k : Int}, FW b v u t st s k → q_load s false 1 (.ptr v 0) = some (.int .i64 t.kind) := fun h => by rw [q_load_p h.fv, tc]; rfl
  have l1 : ∀ {s : St} {k : Int}, FW b v u t st s k → q_load s false 1 (.ptr v 1) = some (.int .i64 t.n) := fun h => by rw [q_load_p h.fv, tc]; rfl
  have f : ∀ j, q_fa j (.ptr v 0) = some (.ptr v j) := fun j => by simp [q_fa]
  refine qb_of (x := .sl 4 true []) rfl ?_
  refine qb_of (f 3) ?_
  refine qb_of (l3 h0) ?_
  refine qb_of (x := .int .i64 (t.kids.length : Int)) (by simp) ?_
  refine hJ_of fun J hJ => ?_
  refine loop_idx (β := PV × List Tr × Int × St × St) t.kids (fun z i => [z.1, .int .i64 (i : Int)]) (fun z => z.2.2.2.2)
    (fun z i rest => Grow z.2.2.2.1 4 (z.2.1.map tree) z.1 z.2.2.2.2 ∧ FW b v u t st z.2.2.2.1 z.2.2.1 ∧ 0 ≤ z.2.2.1 ∧ z.2.2.1 ≤ 20000 ∧ z.2.1.length = i ∧ (∀ y ∈ z.2.1, y.lamy = true ∧ y.big = false) ∧ restF N hs sols t i z.2.1 rest z.2.2.1 = r) ?_ ?_ (_, [], k, s0, s0) ⟨Grow.nil _ _ _, h0, hk0, hk1, rfl, by simp, hv⟩
  · rintro i x rest ⟨p, ys, k1, sb, s⟩ hi hx ⟨hg, hf, k0, k2, hyl, hys, hq⟩ kk
    simp only at hg hf k0 k2 hyl hys hq
    rw [restF_cons] at hq
    have hxm := List.mem_of_getElem? hx
    have hxs := Tr.kid_size hxm
    have hfine := fillT_fine hS N x k1 (hkn.kids x hxm) (Tr.lamy_kids htl hxm) k0 k2 (by omega)
    refine qb_of (x := .bool true) (by simp [hi]) ?_
    rw [cb_bool, br_true]
    refine qb_of (ia_tree .i64 hx) ?_
    refine qb_of (ltr _ _) ?_
    intro v9 hv9
    have hv9' := hg.sub.isNone hv9
    have hg2 := hg.beside (.cells (tree x).cells) hv9
    have hf2 := hf.put (.cells (tree x).cells) hv9'
    refine e_store_zero (upd_same _ _ _) ?_
    rw [upd_upd]
    refine qb_of (ld_tree (upd_same _ _ _)) ?_
    refine callK_worksR (ih x k1 _ (by omega) (by omega) (hkn.kids x hxm) (Tr.lamy_kids htl hxm) k0 k2 (hf2.grow hg2.sub).fb) (fun y k3 hy => ?_) (fun c k3 hc => ?_)
    · rw [hy] at hq hfine
      simp only at hq
      obtain ⟨p1, _, _, p4⟩ := hfine
      obtain ⟨q1, q2, q3⟩ := p4 y rfl
      simp only at p1 q3
      refine qb_of (x := .sl 4 true [tree y]) (by simp) ?_
      have hg3 := hg2.store (cntR [] k3) hf2.fb
      refine hg3.append (ys := [tree y]) (elems_sl _ _ _ _) (by simp; omega) fun p' s1 hg4 => ?_
      refine qb_of (qinc (by omega)) ?_
      refine kk (p', ys ++ [y], k3, upd (upd sb v9 (.cells (tree x).cells)) b (cntR [] k3), s1) ⟨by simp only [List.map_append, List.map_cons, List.map_nil]; exact hg4, hf2.count k3, by simp only; omega, q3, by simp [hyl], fun w hw => ?_, hq⟩
      rcases List.mem_append.1 hw with hw | hw
      · exact hys w hw
      · simp only [List.mem_singleton] at hw; subst hw; exact ⟨q1, q2⟩
    · rw [hc] at hq
      exact WorksR.pan hq ((hf2.grow hg2.sub).count k3).ar (upd_same _ _ _)
  · rintro ⟨p, ys, k1, sb, s⟩ ⟨hg, hf, k0, k2, hyl, hys, hq⟩
    simp only at hg hf k0 k2 hyl hys hq
    rw [restF_nil] at hq
    unfold finF at hq
    have hfs := hf.grow hg.sub
    refine qb_of (x := .bool false) (by simp) ?_
    rw [cb_bool, br_false]
    refine hJ _ _ ?_
    refine qb_of (f 0) ?_
    refine qb_of (l0 hfs) ?_
    refine qb_of (x := .bool (decide (t.kind = 7))) (by simp) ?_
    refine hJ_of fun J1 hJ1 => ?_
    refine cbr_dec (fun h7 => ?_) (fun h7 => ?_)
    · rw [if_pos h7] at hq
      obtain ⟨n0, n1⟩ := hkn.hole h7
      obtain ⟨n, hn⟩ : ∃ n : Nat, t.n = (n : Int) := ⟨t.n.toNat, by omega⟩
      have hnl : n < hs.length := by omega
      rw [hn, Int.toNat_natCast] at hq
      obtain ⟨o1, o2, o3⟩ := hS.ok n hnl
      refine qb_of (f 1) ?_
      refine qb_of (l1 hfs) ?_
      rw [hn]
      show callK _ _ _ _ _ _
      refine callK_just (h_impl_Fill_3_1 hs sols n hnl hS.len _) ?_
      generalize hs.getD n noTree = A at *
      generalize sols.getD n noTree = F at *
      refine qb_of (x := tree F) rfl ?_
      refine qb_of (x := tree A) rfl ?_
      refine qb_of (x := .bool true) rfl ?_
      intro v10 hv10
      intro v11 hv11
      have n11 : v11 ≠ v10 := fun e => by rw [e, upd_same] at hv11; cases hv11
      refine e_store_zero (by rw [upd_ne _ _ n11.symm]; exact upd_same _ _ _) ?_
      refine e_store_zero (by rw [upd_ne _ _ n11]; exact upd_same _ _ _) ?_
      rw [cb_bool, br_true]
      have e10 : (upd (upd (upd (upd s v10 (.cells [.int .i64 0, .int .i64 0, .str [], .sl 0 true []])) v11 (.cells [.int .i64 0, .int .i64 0, .str [], .sl 0 true []])) v10 (.cells (tree F).cells)) v11 (.cells (tree A).cells)) = upd (upd s v10 (.cells (tree F).cells)) v11 (.cells (tree A).cells) := by
        rw [upd_comm _ _ _ n11, upd_upd, upd_upd]
      rw [e10]
      refine qb_of (ld_tree (by rw [upd_ne _ _ n11.symm]; exact upd_same _ _ _)) ?_
      refine qb_of (ld_tree (upd_same _ _ _)) ?_
      rw [upd_ne _ _ n11] at hv11
      have hg2 := hg.beside (.cells (tree F).cells) hv10
      have hg3 := hg2.beside (.cells (tree A).cells) (show upd s v10 (.cells (tree F).cells) v11 = none by rw [upd_ne _ _ n11]; exact hv11)
      have hf2 := hf.put (.cells (tree F).cells) (hg.sub.isNone hv10)
      have hf3 := hf2.put (.cells (tree A).cells) (show upd sb v10 (.cells (tree F).cells) v11 = none by rw [upd_ne _ _ n11]; exact hg.sub.isNone hv11)
      refine callK_conv (us' := [.ptr b 0, tree F, tree A, trees ys]) (st' := upd (upd sb v10 (.cells (tree F).cells)) v11 (.cells (tree A).cells)) (Conv.cons (Conv.sub hg3.sub) (Conv.cons (Conv.sub hg3.sub) (Conv.cons (Conv.sub hg3.sub) hg3.freeze))) ?_
      refine callK_worksR (h_impl_work_applyR [] b (fun x a f s => subT 100000000 x a f 0 s) F A ys k1 (fun x c g k' s' p1 p2 p3 p4 p5 p6 p7 p8 => ⟨h_impl_work_putR [] b 100000000 x c g 0 k' s' p1 p2 p3 p4 (by omega) (by omega) p7 (by omega) p8, subT_fine 100000000 x c g 0 k' p1 p4 p3 (by omega) p7 (by omega)⟩) ⟨k0, k2⟩ o3 o1 o2 (fun x hx => ⟨(hys x hx).1, by have := small_size (hys x hx).2; omega⟩) (by omega) _ hf3.fb) (fun y k3 hy => ?_) (fun c k3 hc => ?_)
      · exact (hf3.count k3).done (by rw [← hq, hy])
      · exact WorksR.pan (by rw [← hq, hc]) (hf3.count k3).ar (upd_same _ _ _)
    · rw [if_neg h7] at hq
      refine hJ1 _ _ ?_
      obtain ⟨o1, o2, o3, o4⟩ := hg.one
      refine qb_of (f 3) ?_
      have e9 : s v = some (.cells [.int .i64 t.kind, .int .i64 t.n, .str t.name, .sl 4 false (t.kids.map tree)]) := by rw [hfs.fv, tc]
      have i9 : sb v = some (.cells [.int .i64 t.kind, .int .i64 t.n, .str t.name, .sl 4 false (t.kids.map tree)]) := by rw [hf.fv, tc]
      refine e_store_ptr (x := p) e9 (by rw [o1]; simp [o4]) o2 o3 (by simp) ?_
      rw [show setRange [PV.int .i64 t.kind, .int .i64 t.n, .str t.name, .sl 4 false (t.kids.map tree)] 3 p.cells = [.int .i64 t.kind, .int .i64 t.n, .str t.name, p] by rw [o1]; rfl]
      have hst := hg.store (.cells [.int .i64 t.kind, .int .i64 t.n, .str t.name, p]) i9
      refine qb_of (x := .agg [.int .i64 t.kind, .int .i64 t.n, .str t.name, p]) (by rw [q_load_p (upd_same _ _ _)]; rfl) ?_
      refine callK_conv (us' := [tree (.mk t.kind t.n t.name ys)]) (GrowF.tree (t := .mk t.kind t.n t.name ys) (.inl hst)) ?_
      generalize hs4 : upd sb v (.cells [.int .i64 t.kind, .int .i64 t.n, .str t.name, p]) = s4
      have lu : s4 u = some (.cells [.int .i64 0, .int .i64 0, .str [], .sl 0 true []]) := by rw [← hs4, upd_ne _ _ hf.n3]; exact hf.fu
      have lb : s4 b = some (cntR [] k1) := by rw [← hs4, upd_ne _ _ hf.n1.symm]; exact hf.fb
      have lar : Around b st s4 := by rw [← hs4]; exact hf.ar.put hf.s1 _
      have hsz : (Tr.mk t.kind t.n t.name ys).size ≤ 1000000000 := by
        rw [Tr.size_kids, Tr.kids_mk]
        have := sizes_small ys (fun y hy => (hys y hy).2)
        omega
      refine callK_heads (h_impl_formed _ hsz _) (fun f hf' => ?_) (fun c hc => ?_)
      · split at hf'
        · cases hf'
        · rename_i hbig
          cases hf'
          rw [if_neg hbig] at hq
          refine e_store_zero lu ?_
          refine qb_of (ld_tree (upd_same _ _ _)) ?_
          exact WorksR.ret hq (lar.put hf.s2 _) (by rw [upd_ne _ _ hf.n2.symm]; exact lb)
      · split at hc
        · rename_i hbig
          cases hc
          rw [if_pos hbig] at hq
          exact WorksR.pan hq lar lb
        · cases hc
end Go.H.Tryz
set_option linter.unusedVariables false
set_option linter.unusedSimpArgs false
namespace Go.H.Tryz
open Go Go.H

def z4T : List PV := [.int .i64 0, .int .i64 0, .str [], .sl 0 true []]
theorem _root_.Go.H.Src.same {bs : List UInt8} {M : Int} {b : Nat} {st st' : St} (h : Src bs M b st) (e : st' b = st b) : Src bs M b st' := by
  obtain ⟨a, s, h1, h2⟩ := h.is
  exact ⟨a, s, by rw [e]; exact h1, h2⟩
theorem _root_.Go.H.HS.redraw {bs : List UInt8} {M M' : Int} {b : Nat} {st w : St} {L : List (Nat × PV)} {P : List (Nat × List PV)} {o : HObj} (h : HS bs M b st w L P) (hs : Src bs M' b (upd w b o)) : HS bs M' b st (upd w b o) L P :=
  ⟨hs, fun c oc hcb h0 => by rw [upd_ne _ _ hcb]; exact h.ar c oc hcb h0,
    fun x hx => by rw [upd_ne _ _ (h.out x.1 (List.mem_append_left _ (List.mem_map_of_mem hx))).1]; exact h.got x hx,
    fun x hx => by rw [upd_ne _ _ (h.out x.1 (List.mem_append_right _ (List.mem_map_of_mem hx))).1]; exact h.zat x hx, h.nd, h.out⟩
theorem _root_.Go.H.HS.put_at {bs : List UInt8} {M : Int} {b : Nat} {st w : St} {L : List (Nat × PV)} {P : List (Nat × List PV)} {z : List PV} {c : Nat} (h : HS bs M b st w L P) (hb : w c = none) : HS bs M b st (upd w c (.cells z)) L (P ++ [(c, z)]) := by
  obtain ⟨v, hv, h'⟩ := h.alloc (z := z) (K := fun p w' => ∃ v, p = .ptr v 0 ∧ HS bs M b st w' L (P ++ [(v, z)])) (fun v w' h' => ⟨v, rfl, h'⟩) c hb
  cases hv
  exact h'
def LongQ (L hs : List Tr) (a : Tr) (n : Nat) (p : PV) : Prop := ∃ t, p = tree t ∧ LT someConsts hs L.reverse t a ∧ t.size ≤ n ∧ t.isTerm false = true
theorem set4 {x : PV} (hx : Box 4 x) : setRange z4T 0 x.cells = x.cells := by
  obtain ⟨cs, rfl, hl, _⟩ := hx
  match cs, hl with
  | [a, b, c, d], _ => rfl
theorem typed_p4 (bs : List UInt8) (b D : Nat) (d : Int) (hdD : D = d.toNat) (hdm : -100000 ≤ d) (L hs : List Tr) (hLl : L.length ≤ 100) (hhl : hs.length ≤ 40) (Mf : Int) (N : Nat) (s0 : List UInt8) (hd : Hd) (st0 : St)
    (hrec : 0 < D → ∀ (x : Tr) (j : Nat) (s' : List UInt8), Nice j s' x → ∀ (M : Int) (st : St), M + dC (D - 1) ≤ Mf → Src bs M b st → HCalls prog n_spec_l00Src_typed [.ptr b 0, trees L, trees hs, tree x, .int .i64 (d - 1)] st (Drew bs (M + dC (D - 1)) b (LongQ L hs x (dS (D - 1) + 4)) st))
    (v10 v18 k : Nat) (tys : List Tr) (hk : tys[k]? = some hd.ty) (hh : HeadOf someConsts hs L.reverse hd) (κ : Nat) (hty : Nice κ s0 hd.ty) (hκ : κ = 0 ∨ 0 < D) (hD : D ≤ 100)
    (M : Int) (w : St) (hw : HS bs M b st0 w [(v18, hd.raw)] [(v10, z4T)]) (hM : M + (κ * dC (D - 1) : Nat) ≤ Mf) (hN : 1 + κ * (dS (D - 1) + 4) ≤ N)
    (x3 x8 x11 x12 x14 x15 x16 x20 x21 x22 x41 x42 x43 x44 x45 x46 x47 x87 x88 x89 x90 x126 x127 x128 x129 x172 x173 x174 x175 x176 x177 x178 x179 : PV) :
    b_spec_l00Src_typed_p4 (.ptr b 0) (trees L) (trees hs) x3 (.int .i64 d) x8 (.ptr v10 0) x11 x12 (.sl 4 false (tys.map tree)) x14 x15 x16 (.int .i64 k) (.ptr v18 0) x20 x21 x22 x41 x42 x43 x44 x45 x46 x47 x87 x88 x89 x90 x126 x127 x128 x129 x172 x173 x174 x175 x176 x177 x178 x179 w (Drew bs Mf b (LongQ L hs (.base s0) N) st0) := by
  unfold b_spec_l00Src_typed_p4
  have e18 := hw.got (v18, hd.raw) (by simp)
  have e10 := hw.zat (v10, z4T) (by simp)
  have n1018 : v18 ≠ v10 := by
    have := hw.nd
    simp at this
    exact this
  obtain ⟨n18b, o18⟩ := hw.out v18 (by simp)
  obtain ⟨n10b, o10⟩ := hw.out v10 (by simp)
  have start : MkN w v18 hd [] (.sl 0 true []) w := by
    have : MkN w v18 hd [] (.sl 0 true []) (upd w v18 (.cells [.int .i64 hd.kd, .int .i64 hd.n, .str hd.nm, .sl 0 true []])) := Grow.nil _ _ _
    have e : upd w v18 (.cells [.int .i64 hd.kd, .int .i64 hd.n, .str hd.nm, .sl 0 true []]) = w := by
      funext c
      unfold upd
      split
      · rename_i h; rw [h]; exact e18.symm
      · rfl
    rw [e] at this
    exact this
  refine qb_of (ia_tree .i64 hk) ?_
  refine qb_of (ltr _ _) ?_
  intro v19 hv19
  refine e_store_ptr (upd_same _ _ _) (tree_cellOK _) (tree_ncells _) (tree_isJunk _) (by simp) ?_
  rw [upd_upd, show setRange [.int .i64 0, .int .i64 0, .str [], .sl 0 true []] 0 (tree hd.ty).cells = (tree hd.ty).cells from set4 (Box.tree _)]
  refine hFix_nat (fun n ls s => ∃ v19 w p M ks P ty, ls = [.ptr v19 0] ∧ Nice n s0 ty ∧ HS bs M b st0 w [(v18, hd.raw)] ((v10, z4T) :: P) ∧ (v19, (tree ty).cells) ∈ P ∧ MkN w v18 hd ks p s ∧ LS someConsts hs L.reverse ks hd.ty ty ∧
    M + (n * dC (D - 1) : Nat) ≤ Mf ∧ Tr.sizes ks + n * (dS (D - 1) + 4) + 1 ≤ N ∧ ks.length + n ≤ 4 ∧ (n = 0 ∨ 0 < D) ∧ ∀ x ∈ ks, x.isTerm false = true) ?_ κ _ _
    ⟨v19, _, _, M, [], [(v19, (tree hd.ty).cells)], hd.ty, rfl, hty, hw.put_at hv19, by simp, start.beside _ hv19, .nil, hM, by simp [Tr.sizes]; omega, by simpa using hty.le, hκ, by simp⟩
  clear hv19 hM hN start hty hκ e18 e10 hw
  rintro n _ s ⟨v19, w, p, M, ks, P, ty, rfl, hty, hw, h19, hg, hls, hM, hN, hlen, hn, hkt⟩ ih
  have e10 := hw.zat (v10, z4T) (by simp)
  have e19 := hw.zat _ (List.mem_cons_of_mem _ h19)
  have nd := hw.nd
  have n19 : v19 ≠ v18 := fun e => by
    simp only [List.map_cons, List.map_nil, List.cons_append, List.nil_append, List.nodup_cons] at nd
    exact nd.1 (by rw [← e]; exact List.mem_cons_of_mem _ (List.mem_map.2 ⟨_, h19, rfl⟩))
  have f19 : s v19 = some (.cells (tree ty).cells) := hg.other n19 e19
  refine qb_of (x := .ptr v19 0) rfl ?_
  refine qb_of (x := .int .i64 ty.kind) (by rw [q_load_ptr f19]; simp) ?_
  refine qb_of (x := .bool (decide (ty.kind = 10))) (by simp) ?_
  refine cbr_dec (fun h10 => ?_) (fun h10 => ?_)
  · obtain ⟨m, rfl⟩ : ∃ m, n = m + 1 := by
      cases n with
      | zero => rw [hty.kind, if_pos rfl] at h10; omega
      | succ m => exact ⟨m, rfl⟩
    obtain ⟨j, s', x, y, rfl, hx, hy⟩ := hty.succ
    have hD0 : 0 < D := by omega
    rw [Nat.succ_mul] at hM hN
    refine qb_of (x := .ptr v18 3) rfl ?_
    refine qb_of hg.row ?_
    refine qb_of (x := .ptr v19 3) rfl ?_
    refine qb_of (x := .sl 4 false [tree x, tree y]) (by rw [q_load_ptr f19]; simp [Tr.arrow, tree_cells, Tr.kids, takeV]) ?_
    refine qb_of (x := .ref (tree x).cells) rfl ?_
    refine qb_of (ltr _ _) ?_
    refine qb_of (qdec (by omega)) ?_
    have hsrc : Src bs M b s := hw.src.same (by
      obtain ⟨o, ho⟩ := hw.src.some
      rw [ho]; exact hg.other (Ne.symm n18b) ho)
    refine callK_drew (hrec hD0 x j s' hx M s (by omega) hsrc) (fun q o hq hs' => ?_)
    obtain ⟨t, rfl, ht, hts, htt⟩ := hq
    obtain ⟨ob, hob⟩ := hw.src.some
    have hw2 := hw.redraw (o := o) (hs'.same (by rw [upd_same, upd_same]))
    have hg2 := hg.store o (Ne.symm n18b) hob
    refine ⟨hg2.row, ?_⟩
    refine qb_of (x := .sl 4 true [tree t]) (by simp) ?_
    refine hg2.more (by omega) fun p' s1 hg3 => ?_
    have e19' := hw2.zat _ (List.mem_cons_of_mem _ h19)
    have f19' : s1 v19 = some (.cells (tree (Tr.arrow x y)).cells) := hg3.other n19 e19'
    refine qb_of (x := tree (Tr.arrow x y)) (by show q_load s1 true 4 (.ptr v19 0) = _; rw [q_load_ptr f19']; simp) ?_
    intro c hc
    have hcw := hg3.none hc
    refine e_store_ptr (upd_same _ _ _) (tree_cellOK _) (tree_ncells _) (tree_isJunk _) (by simp) ?_
    rw [upd_upd, show setRange [.int .i64 0, .int .i64 0, .str [], .sl 0 true []] 0 (tree (Tr.arrow x y)).cells = (tree (Tr.arrow x y)).cells from set4 (Box.tree _)]
    refine qb_of (x := .ptr c 3) rfl ?_
    refine qb_of (x := .sl 4 false [tree x, tree y]) (by rw [q_load_ptr (upd_same _ _ _)]; simp [Tr.arrow, tree_cells, Tr.kids, takeV]) ?_
    refine qb_of (x := .ref (tree y).cells) rfl ?_
    refine qb_of (ltr _ _) ?_
    refine e_store_ptr (upd_same _ _ _) (tree_cellOK _) (tree_ncells _) (tree_isJunk _) (by simp) ?_
    rw [upd_upd, show setRange (tree (Tr.arrow x y)).cells 0 (tree y).cells = (tree y).cells by rw [tree_cells, tree_cells]; rfl]
    refine ih m _ _ (by omega) ⟨c, _, p', M + dC (D - 1), ks ++ [t], P ++ [(c, (tree y).cells)], y, rfl, hy, hw2.put_at hcw, by simp, hg3.beside _ hc, hls.snoc ht, by omega, ?_, by simp; omega, .inr hD0, fun z hz => by
      rcases List.mem_append.1 hz with hz | hz
      · exact hkt z hz
      · simp only [List.mem_singleton] at hz; subst hz; exact htt⟩
    rw [show Tr.sizes (ks ++ [t]) = Tr.sizes ks + t.size by simp [Tr.sizes]]
    omega
  · have hn0 : n = 0 := by
      cases n with
      | zero => rfl
      | succ m => rw [hty.kind, if_neg (by omega)] at h10; exact absurd rfl h10
    subst hn0
    have hb := hty.zero
    subst hb
    have hat := hg.at
    obtain ⟨q1, q2, q3, q4⟩ := hg.one
    refine qb_of (x := .agg [.int .i64 hd.kd, .int .i64 hd.n, .str hd.nm, p]) (by rw [q_load_ptr hat]; rfl) ?_
    have e10' := hg.other (Ne.symm n1018) e10
    refine e_store_ptr e10' (by show (true && (true && (true && (p.cellOK && true)))) = true; rw [q4]; rfl) rfl rfl (by simp [z4T]) ?_
    have hs := hg.store (.cells [.int .i64 hd.kd, .int .i64 hd.n, .str hd.nm, p]) (Ne.symm n1018) e10
    rw [show setRange z4T 0 (PV.agg [.int .i64 hd.kd, .int .i64 hd.n, .str hd.nm, p]).cells = [.int .i64 hd.kd, .int .i64 hd.n, .str hd.nm, p] by rfl]
    refine qb_of (x := .agg [.int .i64 hd.kd, .int .i64 hd.n, .str hd.nm, p]) (by rw [q_load_ptr (upd_same _ _ _)]; rfl) ?_
    refine retR_via hs.freeze ?_
    refine Drew.fin ⟨_, rfl, hh.term hls, ?_, hh.isTerm (by simpa using hLl) (by omega) hkt⟩ ?_ ?_
    · rw [Tr.size_kids]
      show 1 + Tr.sizes ks ≤ N
      omega
    · refine (hw.src.mono (by omega)).same ?_
      rw [upd_ne _ _ (Ne.symm n18b), upd_ne _ _ (Ne.symm n10b)]
    · intro c o hcb h0
      rw [upd_ne _ _ (fun e => by rw [e, o18] at h0; cases h0), upd_ne _ _ (fun e => by rw [e, o10] at h0; cases h0)]
      exact hw.ar c o hcb h0
end Go.H.Tryz
set_option linter.unusedVariables false
set_option linter.unusedSimpArgs false
namespace Go.H.Tryz
open Go Go.H

theorem h_spec_l03Target {k : Nat} {s0 : List UInt8} {t : Tr} (hn : Nice k s0 t) (st : St) : HCalls prog n_spec_l03Target [tree t] st (Just (tree (.base s0)) st) := by
  apply c_spec_l03Target
  unfold b_spec_l03Target
  refine e_box_own (tree_isJunk _) fun b1 hb1 => ?_
  have h1 := (Held.start st).put_at (z := (tree t).cells) hb1
  intro v2 hv2
  have h2 := h1.put_at (z := z4T) hv2
  have o1 := h2.out b1 (by simp)
  have o2 := h2.out v2 (by simp)
  have ne : b1 ≠ v2 := by
    have := h2.nd
    simp at this
    exact this
  have e1 := h2.zat (b1, (tree t).cells) (by simp)
  have e2 := h2.zat (v2, z4T) (by simp)
  have hsub := h2.sub
  show hFix _ _ (upd (upd st b1 (.cells (tree t).cells)) v2 (.cells z4T))
  generalize upd (upd st b1 (.cells (tree t).cells)) v2 (.cells z4T) = w at e1 e2 hsub
  refine hFix_nat (fun n ls s => ls = [] ∧ ∃ ty, Nice n s0 ty ∧ Sub st s ∧ s b1 = some (.cells (tree ty).cells) ∧ s v2 = some (.cells z4T)) ?_ k _ _ ⟨rfl, t, hn, hsub, e1, e2⟩
  clear hsub e1 e2 hn h1 h2 hv2
  rintro n _ s ⟨rfl, ty, hty, hsub, e1, e2⟩ ih
  refine qb_of (x := .ptr b1 0) rfl ?_
  refine qb_of (x := .int .i64 ty.kind) (by rw [q_load_ptr e1]; simp) ?_
  refine qb_of (x := .bool (decide (ty.kind = 10))) (by simp) ?_
  refine cbr_dec (fun h10 => ?_) (fun h10 => ?_)
  · obtain ⟨m, rfl⟩ : ∃ m, n = m + 1 := by
      cases n with
      | zero => rw [hty.kind, if_pos rfl] at h10; omega
      | succ m => exact ⟨m, rfl⟩
    obtain ⟨j, s', x, y, rfl, hx, hy⟩ := hty.succ
    refine qb_of (x := .ptr b1 3) rfl ?_
    refine qb_of (x := .sl 4 false [tree x, tree y]) (by rw [q_load_ptr e1]; simp [Tr.arrow, tree_cells, Tr.kids, takeV]) ?_
    refine qb_of (x := .ref (tree y).cells) rfl ?_
    refine qb_of (ltr _ _) ?_
    refine e_store_ptr e1 (tree_cellOK _) (tree_ncells _) (tree_isJunk _) (by simp) ?_
    rw [show setRange (tree (Tr.arrow x y)).cells 0 (tree y).cells = (tree y).cells by rw [tree_cells, tree_cells]; rfl]
    exact ih m _ _ (by omega) ⟨rfl, y, hy, hsub.put o1, upd_same _ _ _, by rw [upd_ne _ _ (Ne.symm ne)]; exact e2⟩
  · have hn0 : n = 0 := by
      cases n with
      | zero => rfl
      | succ m => rw [hty.kind, if_neg (by omega)] at h10; exact absurd rfl h10
    subst hn0
    have hb := hty.zero
    subst hb
    refine qb_of (x := tree (.base s0)) (by rw [q_load_ptr e1]; simp) ?_
    refine e_store_ptr e2 (tree_cellOK _) (tree_ncells _) (tree_isJunk _) (by simp [z4T]) ?_
    rw [set4 (Box.tree _)]
    refine qb_of (x := tree (.base s0)) (by rw [q_load_ptr (upd_same _ _ _)]; simp) ?_
    exact Just.ret (hsub.put o2)
theorem rawVar (n : Int) (st : St) : HCalls prog n_spec_l01Var [.int .i64 n, .sl 0 true []] st (Just (.agg [.int .i64 5, .int .i64 n, .str [], .sl 0 true []]) st) := by
  apply c_spec_l01Var
  unfold b_spec_l01Var
  refine (Held.start st).alloc fun v4 w1 h1 => ?_
  refine qb_of (x := .agg [.int .i64 5, .int .i64 n, .str [], .sl 0 true []]) rfl ?_
  refine h1.store (n := 4) ⟨_, rfl, rfl, rfl⟩ rfl fun w2 h2 => ?_
  refine qb_of (h2.top (n := 4) ⟨_, rfl, rfl, rfl⟩) ?_
  exact Just.ret h2.sub
theorem rawConst (nm : List UInt8) (st : St) : HCalls prog n_spec_l01Const [.str nm, .sl 0 true []] st (Just (.agg [.int .i64 6, .int .i64 0, .str nm, .sl 0 true []]) st) := by
  apply c_spec_l01Const
  unfold b_spec_l01Const
  refine (Held.start st).alloc fun v4 w1 h1 => ?_
  refine qb_of (x := .agg [.int .i64 6, .int .i64 0, .str nm, .sl 0 true []]) rfl ?_
  refine h1.store (n := 4) ⟨_, rfl, rfl, rfl⟩ rfl fun w2 h2 => ?_
  refine qb_of (h2.top (n := 4) ⟨_, rfl, rfl, rfl⟩) ?_
  exact Just.ret h2.sub
theorem nice_base {k : Nat} {s s' : List UInt8} (h : Nice k s' (.base s)) : k = 0 ∧ s' = s := by
  have hk := h.kind
  have h0 : k = 0 := by
    by_cases h0 : k = 0
    · exact h0
    · rw [if_neg h0] at hk; exact absurd hk (by simp [Tr.base, Tr.kind])
  subst h0
  have := h.zero
  simp only [Tr.base, Tr.mk.injEq] at this
  exact ⟨rfl, this.2.2.1.symm⟩
def Heads (L hs : List Tr) (D : Nat) (s0 : List UInt8) (H : List Hd) : Prop := ∀ h ∈ H, HeadOf someConsts hs L.reverse h ∧ ∃ k, Nice k s0 h.ty ∧ (k = 0 ∨ 0 < D)
def Rec (bs : List UInt8) (b D : Nat) (d : Int) (L hs : List Tr) (Mf : Int) : Prop := 0 < D → ∀ (x : Tr) (j : Nat) (s' : List UInt8), Nice j s' x → ∀ (M : Int) (st : St), M + dC (D - 1) ≤ Mf → Src bs M b st → HCalls prog n_spec_l00Src_typed [.ptr b 0, trees L, trees hs, tree x, .int .i64 (d - 1)] st (Drew bs (M + dC (D - 1)) b (LongQ L hs x (dS (D - 1) + 4)) st)
theorem dC_le {D κ : Nat} (hk : κ ≤ 4) (h : κ = 0 ∨ 0 < D) : 1 + κ * dC (D - 1) ≤ dC D := by
  cases D with
  | zero => rcases h with rfl | h
            · simp [dC]
            · omega
  | succ d =>
    have := Nat.mul_le_mul_right (dC d) hk
    simp only [dC, Nat.add_sub_cancel]
    omega
theorem dS_le {D κ : Nat} (hk : κ ≤ 4) (h : κ = 0 ∨ 0 < D) : 1 + κ * (dS (D - 1) + 4) ≤ dS D := by
  cases D with
  | zero => rcases h with rfl | h
            · simp [dS]
            · omega
  | succ d =>
    have := Nat.mul_le_mul_right (dS d + 4) hk
    simp only [dS, Nat.add_sub_cancel]
    omega
theorem typed_p3 (bs : List UInt8) (hbs : bs.length ≤ 1000000000) (b D : Nat) (hD : D ≤ 100) (d : Int) (hdD : D = d.toNat) (hdm : -100000 ≤ d) (L hs : List Tr) (hL : ∀ x ∈ L, NiceT x) (hhs : ∀ x ∈ hs, NiceT x) (hLl : L.length ≤ 100) (hhl : hs.length ≤ 40) (M : Int) (hM : M + dC D ≤ 100000000) (hM0 : 0 ≤ M) (s0 : List UInt8) (hs0 : s0 = sNat ∨ s0 = sO) (st0 : St)
    (hrec : Rec bs b D d L hs (M + dC D)) (v10 : Nat) (w : St) (hw : HS bs M b st0 w [] [(v10, z4T)]) (H0 : List Hd) (p1 p2 : PV) (s : St) (h2 : Two w (H0.map Hd.raw) ((H0.map Hd.ty).map tree) p1 p2 s) (hH : Heads L hs D s0 H0) (hl0 : H0.length ≤ L.length + hs.length + 0)
    (x3 x14 x15 x20 x21 x22 x41 x42 x43 x44 x45 x46 x47 x87 x88 x89 x90 : PV) :
    b_spec_l00Src_typed_p3 (.ptr b 0) (trees L) (trees hs) x3 (.int .i64 d) (.ref (tree (.base s0)).cells) (.ptr v10 0) (typeds someConsts) p1 p2 x14 x15 x20 x21 x22 x41 x42 x43 x44 x45 x46 x47 x87 x88 x89 x90 s (Drew bs (M + dC D) b (LongQ L hs (.base s0) (dS D)) st0) := by
  unfold b_spec_l00Src_typed_p3 bx_spec_l00Src_typed_p3
  have hcl : someConsts.length = 6 := rfl
  refine loop_cv (β := List Hd × PV × PV × St) someConsts (fun z i => [z.2.1, z.2.2.1, .int .i64 (i : Int)]) (fun z => z.2.2.2) (fun z i rest => Two w (z.1.map Hd.raw) ((z.1.map Hd.ty).map tree) z.2.1 z.2.2.1 z.2.2.2 ∧ Heads L hs D s0 z.1 ∧ z.1.length ≤ L.length + hs.length + i ∧ (∀ x ∈ someConsts.take i, x.type = .base s0 → z.1 ≠ [])) ?_ ?_ (H0, p1, p2, s) ⟨h2, hH, hl0, by simp⟩
  · rintro i x rest ⟨H, p1, p2, s⟩ hi hx ⟨h2, hH, hl, hne⟩ kk
    simp only at h2 hH hl hne
    obtain ⟨k', s', hn⟩ := someConsts_nice x (List.mem_of_getElem? hx)
    refine qb_of (x := .int .i64 (someConsts.length : Int)) (by simp) ?_
    refine qb_of (x := .bool true) (by simp [hi]) ?_
    rw [cb_bool, br_true]
    refine hJ_of fun J hJ => ?_
    have main : ∀ c : Bool, c = decide (s' = s0 ∧ (0 < D ∨ k' = 0)) → J [.bool c] s := fun c hc => by
      refine hJ _ _ ?_
      show cb (.bool c) _
      refine br_of (fun h => ?_) (fun h => ?_)
      · rw [h] at hc
        obtain ⟨e1, e2⟩ := of_decide_eq_true hc.symm
        subst e1
        refine qb_of (ia_typed .i64 hx) ?_
        refine qb_of (x := .ref (typed x).cells) (by simp [q_fa]) ?_
        refine qb_of (x := .str x.name) (by simp) ?_
        refine callK_just (rawConst _ _) ?_
        refine qb_of (x := .sl 4 true [(Hd.raw ⟨6, 0, x.name, x.type⟩)]) rfl ?_
        refine h2.fst (by simp; omega) fun p1' s1 h3 => ?_
        refine qb_of (ia_typed .i64 hx) ?_
        refine qb_of (x := .ref (tree x.type).cells) (by simp [q_fa]) ?_
        refine qb_of (ltr _ _) ?_
        refine qb_of (x := .sl 4 true [tree x.type]) (by simp) ?_
        refine h3.snd (by simp; omega) fun p2' s2 h4 => ?_
        refine qb_of (qinc (by omega)) ?_
        refine kk (H ++ [⟨6, 0, x.name, x.type⟩], p1', p2', s2) ⟨by simpa using h4, ?_, by simp; omega, fun _ _ _ => by simp⟩
        intro h hh
        rcases List.mem_append.1 hh with hh | hh
        · exact hH h hh
        · simp only [List.mem_singleton] at hh
          subst hh
          exact ⟨.const (tyOf_get x (List.mem_of_getElem? hx)), k', hn, by omega⟩
      · rw [h] at hc
        have hc := of_decide_eq_false hc.symm
        refine qb_of (qinc (by omega)) ?_
        refine kk (H, p1, p2, s) ⟨h2, hH, by simp only; omega, fun y hy hyt => by
          rw [List.take_add_one, hx] at hy
          simp only [Option.toList_some, List.mem_append, List.mem_singleton] at hy
          rcases hy with hy | rfl
          · exact hne y hy hyt
          · exfalso
            apply hc
            rw [hyt] at hn
            obtain ⟨e1, e2⟩ := nice_base hn
            exact ⟨e2, .inr e1⟩⟩
    refine qb_of (ia_typed .i64 hx) ?_
    refine qb_of (x := .ref (tree x.type).cells) (by simp [q_fa]) ?_
    refine qb_of (ltr _ _) ?_
    refine qb_of (x := .ref ((tree (.base s0)).cells.drop 2)) (by simp [q_fa]) ?_
    refine qb_of (x := .str s0) (by simp [Tr.base]) ?_
    refine callK_just (h_spec_l03Target hn _) ?_
    refine ⟨by simp [Tr.base], ?_⟩
    refine qb_of (x := .str s') (by simp [tree_eq, Tr.base, q_field]) ?_
    refine qb_of (x := .bool (decide (s' = s0))) (by simp) ?_
    refine cbr_dec (fun e1 => ?_) (fun e1 => ?_)
    · refine qb_of (x := .bool (decide (0 < D))) (by simp; omega) ?_
      refine cbr_dec (fun e2 => main true (decide_eq_true ⟨e1, .inl e2⟩).symm) (fun e2 => ?_)
      refine qb_of (ia_typed .i64 hx) ?_
      refine qb_of (x := .ref (tree x.type).cells) (by simp [q_fa]) ?_
      refine qb_of (x := .ref (tree x.type).cells) (by simp [q_fa]) ?_
      refine qb_of (x := .int .i64 (x.type).kind) (by simp) ?_
      refine qb_of (x := .bool (decide (k' = 0))) (by rw [hn.kind]; by_cases h : k' = 0 <;> simp [h]) ?_
      exact main _ (by congr 1; exact propext ⟨fun h => ⟨e1, .inr h⟩, fun h => h.2.resolve_left e2⟩)
    · exact main false (decide_eq_false (fun h => e1 h.1)).symm
  · rintro ⟨H, p1, p2, s⟩ ⟨h2, hH, hl, hne⟩
    simp only at h2 hH hl hne
    refine ⟨_, _, h2.freeze _, ?_⟩
    obtain ⟨x, hxm, hxt⟩ := someConsts_bare hs0
    have hne := hne x (by rw [List.take_length]; exact hxm) hxt
    have hpos : 0 < H.length := List.length_pos_iff.2 hne
    refine qb_of (x := .int .i64 (someConsts.length : Int)) (by simp) ?_
    refine qb_of (x := .bool false) (by simp) ?_
    rw [cb_bool, br_false]
    refine qb_of (x := .int .i64 (H.length : Int)) (by simp) ?_
    refine hw.drew (h_spec_l00Src_next bs hbs M (by omega) (H.length : Int) (by omega) b w hw.src) fun q w1 hq h3 => ?_
    obtain ⟨k, rfl, k0, k1⟩ := hq
    obtain ⟨j, rfl⟩ : ∃ j : Nat, k = (j : Int) := ⟨k.toNat, by omega⟩
    have hj : j < H.length := by omega
    refine qb_of (x := .ref (Hd.raw H[j]).cells) (by simp [q_ia, hj]) ?_
    refine qb_of (x := Hd.raw H[j]) rfl ?_
    refine h3.alloc fun v18 w2 h4 => ?_
    refine h4.store2 (Hd.box _) rfl fun w3 h5 => ?_
    obtain ⟨hh, κ, hty, hκ⟩ := hH _ (List.getElem_mem hj)
    have hc := dC_le hty.le hκ
    exact typed_p4 bs b D d hdD hdm L hs hLl hhl (M + dC D) (dS D) s0 H[j] st0 hrec v10 v18 j (H.map Hd.ty) (by simp [hj]) hh κ hty hκ hD (M + 1) w3 h5 (by omega) (dS_le hty.le hκ) _ _ _ _ _ _ _ _ _ _ _ _ _ _ _ _ _ _ _ _ _ _ _ _ _ _ _ _ _ _ _ _ _
theorem typed_p2 (bs : List UInt8) (hbs : bs.length ≤ 1000000000) (b D : Nat) (hD : D ≤ 100) (d : Int) (hdD : D = d.toNat) (hdm : -100000 ≤ d) (L hs : List Tr) (hL : ∀ x ∈ L, NiceT x) (hhs : ∀ x ∈ hs, NiceT x) (hLl : L.length ≤ 100) (hhl : hs.length ≤ 40) (M : Int) (hM : M + dC D ≤ 100000000) (hM0 : 0 ≤ M) (s0 : List UInt8) (hs0 : s0 = sNat ∨ s0 = sO) (st0 : St)
    (hrec : Rec bs b D d L hs (M + dC D)) (v10 : Nat) (w : St) (hw : HS bs M b st0 w [] [(v10, z4T)]) (H0 : List Hd) (p1 p2 : PV) (s : St) (h2 : Two w (H0.map Hd.raw) ((H0.map Hd.ty).map tree) p1 p2 s) (hH : Heads L hs D s0 H0) (hl0 : H0.length ≤ L.length + 0)
    (x3 x14 x20 x21 x22 x41 x42 x43 x44 x45 x46 x47 : PV) :
    b_spec_l00Src_typed_p2 (.ptr b 0) (trees L) (trees hs) x3 (.int .i64 d) (.ref (tree (.base s0)).cells) (.ptr v10 0) (typeds someConsts) p1 p2 x14 x20 x21 x22 x41 x42 x43 x44 x45 x46 x47 s (Drew bs (M + dC D) b (LongQ L hs (.base s0) (dS D)) st0) := by
  unfold b_spec_l00Src_typed_p2 bx_spec_l00Src_typed_p2
  refine loop_idx (β := List Hd × PV × PV × St) hs (fun z i => [z.2.1, z.2.2.1, .int .i64 (i : Int)]) (fun z => z.2.2.2) (fun z i rest => Two w (z.1.map Hd.raw) ((z.1.map Hd.ty).map tree) z.2.1 z.2.2.1 z.2.2.2 ∧ Heads L hs D s0 z.1 ∧ z.1.length ≤ L.length + i) ?_ ?_ (H0, p1, p2, s) ⟨h2, hH, hl0⟩
  · rintro i x rest ⟨H, p1, p2, s⟩ hi hx ⟨h2, hH, hl⟩ kk
    simp only at h2 hH hl
    obtain ⟨k', s', hn⟩ := hhs x (List.mem_of_getElem? hx)
    refine qb_of (x := .int .i64 (hs.length : Int)) (by simp) ?_
    refine qb_of (x := .bool true) (by simp [hi]) ?_
    rw [cb_bool, br_true]
    refine hJ_of fun J hJ => ?_
    have main : ∀ c : Bool, c = decide (s' = s0 ∧ (0 < D ∨ k' = 0)) → J [.bool c] s := fun c hc => by
      refine hJ _ _ ?_
      show cb (.bool c) _
      refine br_of (fun h => ?_) (fun h => ?_)
      · rw [h] at hc
        obtain ⟨e1, e2⟩ := of_decide_eq_true hc.symm
        subst e1
        refine qb_of (x := .agg [.int .i64 7, .int .i64 (i : Int), .str [], .sl 0 true []]) rfl ?_
        refine qb_of (x := .sl 4 true [(Hd.raw ⟨7, (i : Int), [], x⟩)]) rfl ?_
        refine h2.fst (by simp; omega) fun p1' s1 h3 => ?_
        refine qb_of (ia_tree .i64 hx) ?_
        refine qb_of (ltr _ _) ?_
        refine qb_of (x := .sl 4 true [tree x]) (by simp) ?_
        refine h3.snd (by simp; omega) fun p2' s2 h4 => ?_
        refine qb_of (qinc (by omega)) ?_
        refine kk (H ++ [⟨7, (i : Int), [], x⟩], p1', p2', s2) ⟨by simpa using h4, ?_, by simp; omega⟩
        intro h hh
        rcases List.mem_append.1 hh with hh | hh
        · exact hH h hh
        · simp only [List.mem_singleton] at hh
          subst hh
          exact ⟨.hole hx, k', hn, by omega⟩
      · rw [h] at hc
        have hc := of_decide_eq_false hc.symm
        refine qb_of (qinc (by omega)) ?_
        refine kk (H, p1, p2, s) ⟨h2, hH, by simp only; omega⟩
    refine qb_of (ia_tree .i64 hx) ?_
    refine qb_of (ltr _ _) ?_
    refine qb_of (x := .ref ((tree (.base s0)).cells.drop 2)) (by simp [q_fa]) ?_
    refine qb_of (x := .str s0) (by simp [Tr.base]) ?_
    refine callK_just (h_spec_l03Target hn _) ?_
    refine ⟨by simp [Tr.base], ?_⟩
    refine qb_of (x := .str s') (by simp [tree_eq, Tr.base, q_field]) ?_
    refine qb_of (x := .bool (decide (s' = s0))) (by simp) ?_
    refine cbr_dec (fun e1 => ?_) (fun e1 => ?_)
    · refine qb_of (x := .bool (decide (0 < D))) (by simp; omega) ?_
      refine cbr_dec (fun e2 => main true (decide_eq_true ⟨e1, .inl e2⟩).symm) (fun e2 => ?_)
      refine qb_of (ia_tree .i64 hx) ?_
      refine qb_of (x := .ref (tree x).cells) (by simp [q_fa]) ?_
      refine qb_of (x := .int .i64 (x).kind) (by simp) ?_
      refine qb_of (x := .bool (decide (k' = 0))) (by rw [hn.kind]; by_cases h : k' = 0 <;> simp [h]) ?_
      exact main _ (by congr 1; exact propext ⟨fun h => ⟨e1, .inr h⟩, fun h => h.2.resolve_left e2⟩)
    · exact main false (decide_eq_false (fun h => e1 h.1)).symm
  · rintro ⟨H, p1, p2, s⟩ ⟨h2, hH, hl⟩
    simp only at h2 hH hl
    refine qb_of (x := .int .i64 (hs.length : Int)) (by simp) ?_
    refine qb_of (x := .bool false) (by simp) ?_
    rw [cb_bool, br_false]
    exact typed_p3 bs hbs b D hD d hdD hdm L hs hL hhs hLl hhl M hM hM0 s0 hs0 st0 hrec v10 w hw H p1 p2 s h2 hH hl _ _ _ _ _ _ _ _ _ _ _ _ _ _ _ _ _
theorem typed_p1 (bs : List UInt8) (hbs : bs.length ≤ 1000000000) (b D : Nat) (hD : D ≤ 100) (d : Int) (hdD : D = d.toNat) (hdm : -100000 ≤ d) (L hs : List Tr) (hL : ∀ x ∈ L, NiceT x) (hhs : ∀ x ∈ hs, NiceT x) (hLl : L.length ≤ 100) (hhl : hs.length ≤ 40) (M : Int) (hM : M + dC D ≤ 100000000) (hM0 : 0 ≤ M) (s0 : List UInt8) (hs0 : s0 = sNat ∨ s0 = sO) (st0 : St)
    (hrec : Rec bs b D d L hs (M + dC D)) (v10 : Nat) (w : St) (hw : HS bs M b st0 w [] [(v10, z4T)]) (H0 : List Hd) (p1 p2 : PV) (s : St) (h2 : Two w (H0.map Hd.raw) ((H0.map Hd.ty).map tree) p1 p2 s) (hH : Heads L hs D s0 H0) (hl0 : H0.length ≤ 0)
    (x3 x20 x21 x22 x41 x42 x43 : PV) :
    b_spec_l00Src_typed_p1 (.ptr b 0) (trees L) (trees hs) x3 (.int .i64 d) (.ref (tree (.base s0)).cells) (.ptr v10 0) (typeds someConsts) p1 p2 x20 x21 x22 x41 x42 x43 s (Drew bs (M + dC D) b (LongQ L hs (.base s0) (dS D)) st0) := by
  unfold b_spec_l00Src_typed_p1 bx_spec_l00Src_typed_p1
  refine loop_idx (β := List Hd × PV × PV × St) L (fun z i => [z.2.1, z.2.2.1, .int .i64 (i : Int)]) (fun z => z.2.2.2) (fun z i rest => Two w (z.1.map Hd.raw) ((z.1.map Hd.ty).map tree) z.2.1 z.2.2.1 z.2.2.2 ∧ Heads L hs D s0 z.1 ∧ z.1.length ≤ i) ?_ ?_ (H0, p1, p2, s) ⟨h2, hH, hl0⟩
  · rintro i x rest ⟨H, p1, p2, s⟩ hi hx ⟨h2, hH, hl⟩ kk
    simp only at h2 hH hl
    obtain ⟨k', s', hn⟩ := hL x (List.mem_of_getElem? hx)
    refine qb_of (x := .int .i64 (L.length : Int)) (by simp) ?_
    refine qb_of (x := .bool true) (by simp [hi]) ?_
    rw [cb_bool, br_true]
    refine hJ_of fun J hJ => ?_
    have main : ∀ c : Bool, c = decide (s' = s0 ∧ (0 < D ∨ k' = 0)) → J [.bool c] s := fun c hc => by
      refine hJ _ _ ?_
      show cb (.bool c) _
      refine br_of (fun h => ?_) (fun h => ?_)
      · rw [h] at hc
        obtain ⟨e1, e2⟩ := of_decide_eq_true hc.symm
        subst e1
        refine qb_of (x := .int .i64 (L.length : Int)) (by simp) ?_
        refine qb_of (qdec (by omega)) ?_
        refine qb_of (x := .int .i64 ((L.length - 1 - i : Nat) : Int)) (by simp; rw [wrap64 (by omega) (by omega)]; omega) ?_
        refine callK_just (rawVar _ _) ?_
        refine qb_of (x := .sl 4 true [(Hd.raw ⟨5, ((L.length - 1 - i : Nat) : Int), [], x⟩)]) rfl ?_
        refine h2.fst (by simp; omega) fun p1' s1 h3 => ?_
        refine qb_of (ia_tree .i64 hx) ?_
        refine qb_of (ltr _ _) ?_
        refine qb_of (x := .sl 4 true [tree x]) (by simp) ?_
        refine h3.snd (by simp; omega) fun p2' s2 h4 => ?_
        refine qb_of (qinc (by omega)) ?_
        refine kk (H ++ [⟨5, ((L.length - 1 - i : Nat) : Int), [], x⟩], p1', p2', s2) ⟨by simpa using h4, ?_, by simp; omega⟩
        intro h hh
        rcases List.mem_append.1 hh with hh | hh
        · exact hH h hh
        · simp only [List.mem_singleton] at hh
          subst hh
          exact ⟨.var (by rw [List.getElem?_reverse (by omega), show L.length - 1 - (L.length - 1 - i) = i by omega]; exact hx), k', hn, by omega⟩
      · rw [h] at hc
        have hc := of_decide_eq_false hc.symm
        refine qb_of (qinc (by omega)) ?_
        refine kk (H, p1, p2, s) ⟨h2, hH, by simp only; omega⟩
    refine qb_of (ia_tree .i64 hx) ?_
    refine qb_of (ltr _ _) ?_
    refine qb_of (x := .ref ((tree (.base s0)).cells.drop 2)) (by simp [q_fa]) ?_
    refine qb_of (x := .str s0) (by simp [Tr.base]) ?_
    refine callK_just (h_spec_l03Target hn _) ?_
    refine ⟨by simp [Tr.base], ?_⟩
    refine qb_of (x := .str s') (by simp [tree_eq, Tr.base, q_field]) ?_
    refine qb_of (x := .bool (decide (s' = s0))) (by simp) ?_
    refine cbr_dec (fun e1 => ?_) (fun e1 => ?_)
    · refine qb_of (x := .bool (decide (0 < D))) (by simp; omega) ?_
      refine cbr_dec (fun e2 => main true (decide_eq_true ⟨e1, .inl e2⟩).symm) (fun e2 => ?_)
      refine qb_of (ia_tree .i64 hx) ?_
      refine qb_of (x := .ref (tree x).cells) (by simp [q_fa]) ?_
      refine qb_of (x := .int .i64 (x).kind) (by simp) ?_
      refine qb_of (x := .bool (decide (k' = 0))) (by rw [hn.kind]; by_cases h : k' = 0 <;> simp [h]) ?_
      exact main _ (by congr 1; exact propext ⟨fun h => ⟨e1, .inr h⟩, fun h => h.2.resolve_left e2⟩)
    · exact main false (decide_eq_false (fun h => e1 h.1)).symm
  · rintro ⟨H, p1, p2, s⟩ ⟨h2, hH, hl⟩
    simp only at h2 hH hl
    refine qb_of (x := .int .i64 (L.length : Int)) (by simp) ?_
    refine qb_of (x := .bool false) (by simp) ?_
    rw [cb_bool, br_false]
    exact typed_p2 bs hbs b D hD d hdD hdm L hs hL hhs hLl hhl M hM hM0 s0 hs0 st0 hrec v10 w hw H p1 p2 s h2 hH hl _ _ _ _ _ _ _ _ _ _ _ _
end Go.H.Tryz
set_option linter.unusedVariables false
set_option linter.unusedSimpArgs false
namespace Go.H.Tryz
open Go Go.H

theorem src_pos {bs : List UInt8} {M : Int} {b : Nat} {st : St} (h : Src bs M b st) : 0 ≤ M := by
  obtain ⟨a, s, _, h1, h2, _⟩ := h.is
  omega
theorem h_spec_l00Src_typed (bs : List UInt8) (hbs : bs.length ≤ 1000000000) (b : Nat) (hs : List Tr) (hhs : ∀ x ∈ hs, NiceT x) (hhl : hs.length ≤ 40) : ∀ (N D k : Nat), 5 * D + k ≤ N → ∀ (d : Int), D = d.toNat → -100000 ≤ d → ∀ (L : List Tr) (a : Tr) (s0 : List UInt8) (M : Int) (st : St), Nice k s0 a → (∀ x ∈ L, NiceT x) → L.length + k + 4 * D ≤ 100 → D ≤ 40 → M + dC D ≤ 100000000 → Src bs M b st →
    HCalls prog n_spec_l00Src_typed [.ptr b 0, trees L, trees hs, tree a, .int .i64 d] st (Drew bs (M + dC D) b (LongQ L hs a (dS D + k)) st) := by
  intro N
  induction N using Nat.strongRecOn with
  | _ N ih =>
  intro D k hN d hdD hdm L a s0 M st ha hL hLl hD hM hsrc
  have hM0 := src_pos hsrc
  apply c_spec_l00Src_typed
  unfold b_spec_l00Src_typed bx_spec_l00Src_typed
  refine e_box_ref (tree_isJunk _) ?_
  refine (HS.start hsrc).alloc fun v10 w1 h1 => ?_
  refine qb_of (x := .ref (tree a).cells) (by simp [q_fa]) ?_
  refine qb_of (x := .int .i64 a.kind) (by simp) ?_
  refine qb_of (x := .bool (decide (a.kind = 10))) (by simp) ?_
  refine cbr_dec (fun h10 => ?_) (fun h10 => ?_)
  · obtain ⟨m, rfl⟩ : ∃ m, k = m + 1 := by
      cases k with
      | zero => rw [ha.kind, if_pos rfl] at h10; omega
      | succ m => exact ⟨m, rfl⟩
    obtain ⟨j, s', x, y, rfl, hx, hy⟩ := ha.succ
    have k3 : ∀ s : St, q_load s false 1 (.ref ((tree (Tr.arrow x y)).cells.drop 3)) = some (.sl 4 false [tree x, tree y]) := fun s => by simp [Tr.arrow, tree_cells, Tr.kids, takeV]
    have f3 : q_fa 3 (.ref (tree (Tr.arrow x y)).cells) = some (.ref ((tree (Tr.arrow x y)).cells.drop 3)) := by simp [q_fa]
    refine qb_of (x := .sl 4 true []) rfl ?_
    refine qb_of f3 ?_
    refine qb_of (k3 _) ?_
    refine qb_of (x := .ref (tree x).cells) rfl ?_
    refine qb_of (ltr _ _) ?_
    refine qb_of (x := .sl 4 true [tree x]) (by simp) ?_
    refine qb_of f3 ?_
    refine qb_of (k3 _) ?_
    refine qb_of (x := .ref (tree y).cells) rfl ?_
    refine qb_of (ltr _ _) ?_
    refine (Grow.nil _ 4 4).append (ys := L.map tree) (elems_sl _ _ _ _) (by simp; omega) fun p1 s1 g1 => ?_
    refine ⟨ltr _ _, k3 _, ltr _ _, k3 _, ?_⟩
    refine g1.append (ys := [tree x]) (elems_sl _ _ _ _) (by simp; omega) fun p2 s2 g2 => ?_
    refine ⟨ltr _ _, k3 _, ?_⟩
    refine callK_conv (us' := [.ptr b 0, trees (L ++ [x]), trees hs, tree y, .int .i64 d]) (st' := w1) (Conv.cons (Conv.sub g2.sub) (Conv.cons (by simpa using g2.freeze) (Conv.sub g2.sub))) ?_
    refine h1.drew (ih (5 * D + m) (by omega) D m (by omega) d hdD hdm (L ++ [x]) y s0 M w1 hy (fun z hz => by
      rcases List.mem_append.1 hz with hz | hz
      · exact hL z hz
      · simp only [List.mem_singleton] at hz; subst hz; exact ⟨_, _, hx⟩) (by simp; omega) hD hM h1.src) fun q w2 hq h3 => ?_
    obtain ⟨t, rfl, ht, hts, htt⟩ := hq
    refine callK_just (h_spec_l01Lam t _) ?_
    refine h3.store (Box.tree _) rfl fun w3 h4 => ?_
    refine qb_of (h4.top (Box.tree _)) ?_
    refine h4.fin ⟨_, rfl, ?_, ?_, term_lam' htt⟩
    · rw [List.reverse_append] at ht
      exact .lam ht
    · rw [size_lam]; omega
  · have hk0 : k = 0 := by
      cases k with
      | zero => rfl
      | succ m => rw [ha.kind, if_neg (by omega)] at h10; exact absurd rfl h10
    subst hk0
    have hb := ha.zero
    subst hb
    refine callK_just (h_spec_l03Some _) ?_
    refine qb_of (x := .sl 4 true []) rfl ?_
    refine qb_of (x := .sl 4 true []) rfl ?_
    refine typed_p1 bs hbs b D (by omega) d hdD hdm L hs hL hhs (by omega) hhl M hM hM0 s0 ha.name st (fun hD0 x j s' hx M' st' hM' hsrc' => ?_) v10 w1 h1 [] _ _ _ (Two.start _ _ _) (fun h hh => by cases hh) (by simp) _ _ _ _ _ _ _
    have := ih (5 * (D - 1) + j) (by have := hx.le; omega) (D - 1) j (Nat.le_refl _) (d - 1) (by omega) (by omega) L x s' M' st' hx hL (by have := hx.le; omega) (by omega) (by omega) hsrc'
    refine this.mono fun r s h => ?_
    obtain ⟨p, o, h1, ⟨t, h2, h3, h4, h6⟩, h5⟩ := h
    exact ⟨p, o, h1, ⟨t, h2, h3, by have := hx.le; omega, h6⟩, h5⟩
end Go.H.Tryz
set_option linter.unusedVariables false
set_option linter.unusedSimpArgs false
namespace Go.H.Tryz
open Go Go.H

end Go.H.Tryz
set_option linter.unusedVariables false
set_option linter.unusedSimpArgs false
namespace Go.H.Tryz
open Go Go.H

end Go.H.Tryz
set_option linter.unusedVariables false
set_option linter.unusedSimpArgs false
namespace Go.H.Tryz
open Go Go.H

def PatQ (L hs : List Tr) (a : Tr) (n m : Nat) (p : PV) : Prop := ∃ t, p = tree t ∧ LT someConsts hs L.reverse t a ∧ t.size ≤ n ∧ Lb m t
def NS (t : Tr) : Prop := NiceT t ∧ t.size ≤ 100
theorem struct3 {n : Int} (p : PV) (h : p.cells = [p] ∧ p.ncells = 1 ∧ p.isJunk = false ∧ p.cellOK = true) : q_struct [.int .i64 0, .int .i64 0, .str [], .sl 0 true []] [(0, 1, .int .i64 7), (1, 1, .int .i64 n), (3, 1, p)] = some (.agg [.int .i64 7, .int .i64 n, .str [], p]) := by
  obtain ⟨o1, o2, o3, o4⟩ := h
  unfold q_struct
  simp only [fillL]
  rw [if_pos ⟨rfl, by simp, rfl⟩, if_pos ⟨rfl, by simp [PV.cells], rfl⟩, if_pos ⟨o2, by simp [PV.cells], by rw [o1]; simp [o4]⟩, o1]
  rfl
theorem sizes_app (a b : List Tr) : Tr.sizes (a ++ b) = Tr.sizes a + Tr.sizes b := by simp [Tr.sizes]
theorem mem_sizes : ∀ {l : List Tr} {x : Tr}, x ∈ l → x.size ≤ Tr.sizes l
  | y :: r, x, h => by
    rw [sizes_consK]
    rcases List.mem_cons.1 h with rfl | h
    · omega
    · have := mem_sizes h; omega
theorem NS.args {t : Tr} (h : NS t) : ∀ x ∈ t.args, NS x := fun x hx => by
  obtain ⟨⟨k, s, hn⟩, hs⟩ := h
  refine ⟨hn.args_nice x hx, ?_⟩
  have h1 := Tr.args_size t hn.simple
  have h2 := mem_sizes hx
  omega
theorem NS.simple {t : Tr} (h : NS t) : t.isSimple = true := by
  obtain ⟨⟨k, s, hn⟩, hs⟩ := h
  exact hn.simple
theorem someConsts_ns : ∀ x ∈ someConsts, NS x.type := fun x hx => ⟨someConsts_nice x hx, by
  simp only [someConsts, List.mem_cons, List.not_mem_nil, or_false] at hx
  rcases hx with rfl | rfl | rfl | rfl | rfl | rfl <;> simp⟩
def pS : Nat → Nat
  | 0 => 101
  | d + 1 => 101 + 4 * (pS d + 4)
def kS : Nat → Nat
  | 0 => 5
  | d + 1 => pS d + 4
theorem kS_le (d : Nat) : 1 + 4 * kS d ≤ pS d := by cases d <;> simp only [kS, pS] <;> omega
theorem pS_pos (d : Nat) : 101 ≤ pS d := by cases d <;> simp only [pS] <;> omega
def PRec (bs : List UInt8) (b D : Nat) (d : Int) (L hs : List Tr) (Mf : Int) : Prop := 0 < D → ∀ (x : Tr), NS x → ∀ (M : Int) (st : St), M + kidC D ≤ Mf → Src bs M b st → HCalls prog n_spec_l00Src_pattern [.ptr b 0, trees L, trees hs, tree x, .int .i64 (d - 1)] st (Drew bs (M + kidC D) b (PatQ L hs x (kS D) (4 * D + 5)) st)
theorem h_spec_l00Src_pattern (bs : List UInt8) (hbs : bs.length ≤ 1000000000) (b : Nat) (hs : List Tr) (hhs : ∀ x ∈ hs, NS x) (hhl : hs.length ≤ 40) : ∀ (N D k : Nat), 5 * D + k ≤ N → ∀ (d : Int), D = d.toNat → -100000 ≤ d → ∀ (L : List Tr) (a : Tr) (s0 : List UInt8) (M : Int) (st : St), Nice k s0 a → a.size ≤ 100 → (∀ x ∈ L, NS x) → L.length + k + 4 * D + 4 ≤ 100 → D ≤ 20 → M + patC D ≤ 100000000 → Src bs M b st →
    HCalls prog n_spec_l00Src_pattern [.ptr b 0, trees L, trees hs, tree a, .int .i64 d] st (Drew bs (M + patC D) b (PatQ L hs a (pS D + k) (4 * D + 5 + k)) st) := by
  intro N
  induction N using Nat.strongRecOn with
  | _ N ih =>
  intro D k hN d hdD hdm L a s0 M st ha haz hL hLl hD hM hsrc
  have hM0 := src_pos hsrc
  apply c_spec_l00Src_pattern
  unfold b_spec_l00Src_pattern
  refine e_box_ref (tree_isJunk _) ?_
  refine (HS.start hsrc).alloc fun v10 w1 h1 => ?_
  refine qb_of (x := .ref (tree a).cells) (by simp [q_fa]) ?_
  refine qb_of (x := .int .i64 a.kind) (by simp) ?_
  refine qb_of (x := .bool (decide (a.kind = 10))) (by simp) ?_
  refine cbr_dec (fun h10 => ?_) (fun h10 => ?_)
  · obtain ⟨m, rfl⟩ : ∃ m, k = m + 1 := by
      cases k with
      | zero => rw [ha.kind, if_pos rfl] at h10; omega
      | succ m => exact ⟨m, rfl⟩
    obtain ⟨j, s', x, y, rfl, hx, hy⟩ := ha.succ
    rw [arrow_size] at haz
    have k3 : ∀ s : St, q_load s false 1 (.ref ((tree (Tr.arrow x y)).cells.drop 3)) = some (.sl 4 false [tree x, tree y]) := fun s => by simp [Tr.arrow, tree_cells, Tr.kids, takeV]
    have f3 : q_fa 3 (.ref (tree (Tr.arrow x y)).cells) = some (.ref ((tree (Tr.arrow x y)).cells.drop 3)) := by simp [q_fa]
    refine qb_of f3 ?_
    refine qb_of (k3 _) ?_
    refine qb_of (x := .ref (tree x).cells) rfl ?_
    refine qb_of (ltr _ _) ?_
    refine qb_of f3 ?_
    refine qb_of (k3 _) ?_
    refine qb_of (x := .ref (tree y).cells) rfl ?_
    refine qb_of (ltr _ _) ?_
    refine callK_just (h_spec_l04More L x (by omega) _) ?_
    refine ⟨ltr _ _, k3 _, ?_⟩
    refine h1.drew (ih (5 * D + m) (by omega) D m (by omega) d hdD hdm (L ++ [x]) y s0 M w1 hy (by omega) (fun z hz => by
      rcases List.mem_append.1 hz with hz | hz
      · exact hL z hz
      · simp only [List.mem_singleton] at hz; subst hz; exact ⟨⟨_, _, hx⟩, by omega⟩) (by simp; omega) hD hM h1.src) fun q w2 hq h3 => ?_
    obtain ⟨t, rfl, ht, hts, htl⟩ := hq
    refine callK_just (h_spec_l01Lam t _) ?_
    refine h3.store (Box.tree _) rfl fun w3 h4 => ?_
    refine qb_of (h4.top (Box.tree _)) ?_
    refine h4.fin ⟨_, rfl, ?_, by rw [size_lam]; omega, .lam htl⟩
    rw [List.reverse_append] at ht
    exact .lam ht
  · have hk0 : k = 0 := by
      cases k with
      | zero => rfl
      | succ m => rw [ha.kind, if_neg (by omega)] at h10; exact absurd rfl h10
    subst hk0
    have hb := ha.zero
    subst hb
    have hpc := patC_eq D
    have f2 : q_fa 2 (.ref (tree (Tr.base s0)).cells) = some (.ref ((tree (Tr.base s0)).cells.drop 2)) := by simp [q_fa]
    have l2 : ∀ s : St, q_load s false 1 (.ref ((tree (Tr.base s0)).cells.drop 2)) = some (.str s0) := fun s => by simp [Tr.base]
    have hprec : PRec bs b D d L hs (M + patC D) := fun hD0 x hx M' st' hM' hs' => by
      obtain ⟨⟨j, s', hn⟩, hz⟩ := hx
      have := ih (5 * (D - 1) + j) (by have := hn.le; omega) (D - 1) j (Nat.le_refl _) (d - 1) (by omega) (by omega) L x s' M' st' hn hz hL (by have := hn.le; omega) (by omega) (by
        cases D with
        | zero => omega
        | succ d => simp only [kidC, Nat.add_sub_cancel] at hM' ⊢; omega) hs'
      cases D with
      | zero => omega
      | succ D' =>
        refine this.mono fun r s h => ?_
        obtain ⟨p, o, h1, ⟨t, h2, h3, h4, h6⟩, h5⟩ := h
        simp only [Nat.add_sub_cancel] at h4 h6
        exact ⟨p, o, h1, ⟨t, h2, h3, by simp only [kS]; have := hn.le; omega, h6.mono (by have := hn.le; omega)⟩, h5⟩
    refine hJ_of fun J hJ => ?_
    have main : ∀ (c : Bool) (w : St) (M' : Int), (c = true → 0 < hs.length) → M' ≤ M + 1 → HS bs M' b st w [] [(v10, z4T)] → J [.bool c] w := fun c w M' hc hM' h1 => by
      refine hJ _ _ ?_
      refine hJ_of fun J1 hJ1 => ?_
      have tail : ∀ (w : St) (M' : Int), M' ≤ M + 6 → HS bs M' b st w [] [(v10, z4T)] → J1 [] w := fun w M' hM' h1 => by
        refine hJ1 _ _ ?_
        refine qb_of (ltr _ _) ?_
        have hmin : dC (min D 1) ≤ 5 := by
          cases D with
          | zero => decide
          | succ d => rw [Nat.min_eq_right (by omega)]; decide
        refine qb_of (x := .int .i64 (min d 1)) (by simp only [q_min]; congr 1; congr 1; omega) ?_
        refine callK_conv (us' := [.ptr b 0, trees L, trees [], tree (.base s0), .int .i64 (min d 1)]) (st' := w) (Conv.cons (Conv.refl _ _) (Conv.cons (Conv.refl _ _) (Conv.cons (Conv.sl_to w 0 4 true [] (.inr rfl)) (Conv.refl _ _)))) ?_
        refine h1.drew (h_spec_l00Src_typed bs hbs b [] (by simp) (by simp) (5 * (min D 1)) (min D 1) 0 (by omega) (min d 1) (by omega) (by omega) L (.base s0) s0 M' w ha (fun x hx => (hL x hx).1) (by omega) (by omega) (by omega) h1.src) fun q w2 hq h2 => ?_
        obtain ⟨t, rfl, ht, _, _⟩ := hq
        refine h2.alloc fun v19 w3 h3 => ?_
        refine h3.store2 (Box.tree t) rfl fun w4 h4 => ?_
        have e19 := h4.got _ (List.mem_cons_self ..)
        refine qb_of (x := .sl 4 true []) rfl ?_
        refine qb_of (x := .ptr v19 0) rfl ?_
        refine qb_of (x := .int .i64 t.kind) (by rw [q_load_ptr e19]; simp) ?_
        refine qb_of (x := .bool (decide (t.kind = 5))) (by simp) ?_
        refine hJ_of fun J2 hJ2 => ?_
        have hk4' : t.kind ≠ 4 := by
          obtain ⟨_, _, hB⟩ := ht.head
          obtain ⟨_, h, _⟩ | ⟨h, _⟩ := hB <;> rw [h] <;> decide
        have after2 : ∀ (B : Tr) (κ : Nat), Nice κ s0 B → NS B → (∀ ks, LS someConsts hs L.reverse ks B (.base s0) → LT someConsts hs L.reverse (.mk t.kind t.n t.name ks) (.base s0)) → J2 [trees B.args] w4 := fun B κ hB hBs hmk => by
          refine hJ2 _ _ ?_
          have hal := hB.args_len
          have hk4 := hB.le
          have hmul := Nat.mul_le_mul_right (kidC D) hk4
          refine qb_of (x := .sl 4 true []) rfl ?_
          refine loop_idx (β := List Tr × PV × St × Int × St) B.args (fun z i => [z.2.1, .int .i64 (i : Int)]) (fun z => z.2.2.2.2)
            (fun z i rest => HS bs z.2.2.2.1 b st z.2.2.1 [(v19, tree t)] [(v10, z4T)] ∧ z.2.2.2.1 + (rest.length * kidC D : Nat) ≤ M + patC D ∧ Grow z.2.2.1 4 (z.1.map tree) z.2.1 z.2.2.2.2 ∧ z.1.length = i ∧ (∀ (j : Nat) (x y : Tr), z.1[j]? = some x → B.args[j]? = some y → LT someConsts hs L.reverse x y) ∧ Tr.sizes z.1 ≤ i * kS D ∧ ∀ x ∈ z.1, Lb (4 * D + 5) x)
            ?_ ?_ ([], .sl 4 true [], w4, _, w4) ⟨h4, by simp only; rw [hal]; omega, Grow.nil _ _ _, rfl, by simp, by simp [Tr.sizes], by simp⟩
          · rintro i x rest ⟨ks, p, w5, M5, s⟩ hi hx ⟨h5, hM5, hg, hkl, hlt, hss, hlb⟩ kk
            simp only at h5 hM5 hg hkl hlt hss hlb
            rw [List.length_cons, Nat.succ_mul] at hM5
            have hxn := hBs.args x (List.mem_of_getElem? hx)
            refine qb_of (x := .int .i64 (B.args.length : Int)) (by simp) ?_
            refine qb_of (x := .bool true) (by simp [hi]) ?_
            rw [cb_bool, br_true]
            obtain ⟨ob, hob⟩ := h5.src.some
            have hsrc : Src bs M5 b s := h5.src.same (by rw [hob]; exact hg.sub _ _ hob)
            have more : ∀ (u : Tr) (o : HObj), LT someConsts hs L.reverse u x → u.size ≤ kS D → Lb (4 * D + 5) u → Src bs (M5 + kidC D) b (upd s b o) → e_append (upd s b o) 4 56 p (.sl 4 true [tree u]) fun v195 s1 => qb (q_bin .add (.int .i64 (i : Int)) (.int .i64 1)) fun v180 => hFix _ [v195, v180] s1 := fun u o hu hus hul hs' => by
              have h6 := h5.redraw (o := o) (hs'.same (by rw [upd_same, upd_same]))
              have hg2 := hg.store o hob
              refine hg2.append (ys := [tree u]) (elems_sl _ _ _ _) (by simp; omega) fun p' s1 hg3 => ?_
              refine qb_of (qinc (by omega)) ?_
              refine kk (ks ++ [u], p', upd w5 b o, M5 + kidC D, s1) ⟨h6, by simp only; omega, by simpa using hg3, by simp [hkl], ?_, by
                simp only
                rw [Nat.succ_mul, show Tr.sizes (ks ++ [u]) = Tr.sizes ks + u.size by simp [Tr.sizes]]
                omega, fun z hz => by
                rcases List.mem_append.1 hz with hz | hz
                · exact hlb z hz
                · simp only [List.mem_singleton] at hz; subst hz; exact hul⟩
              intro j z y hz hy
              simp only at hz
              by_cases hj : j < ks.length
              · rw [List.getElem?_append_left hj] at hz; exact hlt j z y hz hy
              · have hji : j = i := by
                  have := (List.getElem?_eq_some_iff.1 hz).1
                  simp at this; omega
                subst hji
                rw [List.getElem?_append_right (by omega), hkl, Nat.sub_self] at hz
                simp only [List.getElem?_cons_zero, Option.some.injEq] at hz
                rw [hx] at hy
                injection hy with hy
                rw [← hz, ← hy]; exact hu
            refine qb_of (x := .bool (decide (0 < D))) (by simp; omega) ?_
            refine cbr_dec (fun hD0 => ?_) (fun hD0 => ?_)
            · refine qb_of (ia_tree .i64 hx) ?_
              refine qb_of (ltr _ _) ?_
              refine qb_of (qdec (by omega)) ?_
              refine callK_drew (hprec hD0 x hxn M5 s (by omega) hsrc) (fun q o hq hs' => ?_)
              obtain ⟨u, rfl, hu, hus, hul⟩ := hq
              refine qb_of (x := .sl 4 true [tree u]) (by simp) ?_
              exact more u o hu hus hul hs'
            · have hD00 : D = 0 := by omega
              subst hD00
              obtain ⟨⟨j, s', hn⟩, hz⟩ := hxn
              refine qb_of (ia_tree .i64 hx) ?_
              refine qb_of (ltr _ _) ?_
              refine callK_conv (us' := [.ptr b 0, trees L, trees [], tree x, .int .i64 0]) (st' := s) (Conv.cons (Conv.refl _ _) (Conv.cons (Conv.refl _ _) (Conv.cons (Conv.sl_to s 0 4 true [] (.inr rfl)) (Conv.refl _ _)))) ?_
              refine callK_drew (h_spec_l00Src_typed bs hbs b [] (by simp) (by simp) (5 * 0 + j) 0 j (Nat.le_refl _) 0 (by simp) (by omega) L x s' M5 s hn (fun x hx => (hL x hx).1) (by have := hn.le; omega) (by omega) (by simp only [dC]; simp only [kidC] at hM5; omega) hsrc) (fun q o hq hs' => ?_)
              obtain ⟨u, rfl, hu, hus, _⟩ := hq
              refine qb_of (x := .sl 4 true [tree u]) (by simp) ?_
              exact more u o hu.holes (by simp only [dS, kS] at hus ⊢; have := hn.le; omega) ((Lb.size u hu.lamy).mono (by simp only [dS] at hus; have := hn.le; omega)) hs'
          · rintro ⟨ks, p, w5, M5, s⟩ ⟨h5, hM5, hg, hkl, hlt, hss, hlb⟩
            simp only at h5 hM5 hg hkl hlt hss hlb
            have e19 := h5.got _ (List.mem_cons_self ..)
            refine qb_of (x := .int .i64 (B.args.length : Int)) (by simp) ?_
            refine qb_of (x := .bool false) (by simp) ?_
            rw [cb_bool, br_false]
            refine qb_of (x := tree t) (by rw [q_load_ptr (hg.sub _ _ e19)]; simp) ?_
            refine callK_conv (us' := [tree t, trees ks]) (st' := w5) (Conv.cons (Conv.sub hg.sub) hg.freeze) ?_
            refine callK_just (h_spec_l01With t ks _) ?_
            refine h5.store (Box.tree _) rfl fun w6 h6 => ?_
            refine qb_of (h6.top (Box.tree _)) ?_
            refine (h6.mono (show M5 ≤ M + patC D by omega)).fin ⟨_, rfl, hmk ks ?_, ?_, .app hk4' hlb⟩
            · exact LS.of hB ks (by omega) hlt
            · rw [Tr.size_kids]
              show 1 + Tr.sizes ks ≤ _
              have h1 := Nat.mul_le_mul_right (kS D) hk4
              rw [hal] at hss
              have h2 := kS_le D
              omega
        obtain ⟨B, hls, hB⟩ := ht.head
        have fits : ∀ {κ : Nat} {s' : List UInt8}, Nice κ s' B → Nice κ s0 B := fun hn => by
          obtain ⟨e, _⟩ := hls.target hn
          rw [← e]; exact hn
        refine cbr_dec (fun h5 => ?_) (fun h5 => ?_)
        · obtain ⟨n, _, hn, hnm, hget⟩ | ⟨h6, _⟩ := hB
          · have hlt := (List.getElem?_eq_some_iff.1 hget).1
            simp only [List.length_reverse] at hlt
            rw [List.getElem?_reverse (by omega)] at hget
            have hBL := hL B (List.mem_of_getElem? hget)
            obtain ⟨⟨κ, s', hκ⟩, hz⟩ := hBL
            refine qb_of (x := .int .i64 (L.length : Int)) (by simp) ?_
            refine qb_of (qdec (by omega)) ?_
            refine qb_of (x := .ptr v19 1) rfl ?_
            refine qb_of (x := .int .i64 (n : Int)) (by rw [q_load_ptr e19]; simp [hn]) ?_
            refine qb_of (x := .int .i64 ((L.length - 1 - n : Nat) : Int)) (by simp; rw [wrap64 (by omega) (by omega)]; omega) ?_
            refine qb_of (ia_tree .i64 hget) ?_
            refine qb_of (ltr _ _) ?_
            refine callK_just (h_spec_l06Args B hκ.simple (by omega) _) ?_
            refine after2 B κ (fits hκ) ⟨⟨κ, s', hκ⟩, hz⟩ fun ks hks => ?_
            rw [h5, hn, hnm]
            exact .var (b := B) (by rw [List.getElem?_reverse (by omega)]; exact hget) hks
          · rw [h5] at h6; omega
        · obtain ⟨n, h6, _⟩ | ⟨h6, hn, hty⟩ := hB
          · exact absurd h6 h5
          · obtain ⟨j, hj, hgo, hjt⟩ := tyGo_of someConsts 0 hty
            obtain ⟨y, hy, hyt⟩ : ∃ y, someConsts[j]? = some y ∧ y.type = B := by
              cases he : someConsts[j]? with
              | none => rw [he] at hjt; simp at hjt
              | some y => rw [he] at hjt; exact ⟨y, rfl, by simpa using hjt⟩
            have hBn := someConsts_ns y (List.mem_of_getElem? hy)
            rw [hyt] at hBn
            obtain ⟨⟨κ, s', hκ⟩, hz⟩ := hBn
            refine qb_of (x := .ptr v19 2) rfl ?_
            refine qb_of (x := .str t.name) (by rw [q_load_ptr e19]; simp) ?_
            refine callK_just (h_spec_l03Some _) ?_
            refine ⟨by rw [q_load_ptr e19]; simp, ?_⟩
            refine callK_just (h_spec_l03Some _) ?_
            refine ⟨by rw [q_load_ptr e19]; simp, ?_⟩
            refine callK_just (h_spec_l03Const someConsts t.name (by simp [someConsts]) _) ?_
            refine qb_of (x := .ref (typed y).cells) (by
              rw [show tyAt someConsts t.name = (j : Int) by unfold tyAt; rw [hgo]; simp]
              exact ia_typed .i64 hy) ?_
            refine qb_of (x := .ref (tree B).cells) (by rw [← hyt]; simp [q_fa]) ?_
            refine qb_of (ltr _ _) ?_
            refine callK_just (h_spec_l06Args B hκ.simple (by omega) _) ?_
            refine after2 B κ (fits hκ) ⟨⟨κ, s', hκ⟩, hz⟩ fun ks hks => ?_
            rw [h6, hn]
            exact .const hty hks
      show cb (.bool c) _
      refine br_of (fun hct => ?_) (fun _ => tail w M' (by omega) h1)
      have hpos := hc hct
      refine qb_of (x := .int .i64 (hs.length : Int)) (by simp) ?_
      refine h1.drew (h_spec_l00Src_next bs hbs M' (by omega) (hs.length : Int) (by omega) b w h1.src) fun q w2 hq h2 => ?_
      obtain ⟨h, rfl, h0, hh⟩ := hq
      obtain ⟨j, rfl⟩ : ∃ j : Nat, h = (j : Int) := ⟨h.toNat, by omega⟩
      have hj : j < hs.length := by omega
      have hget : hs[j]? = some hs[j] := List.getElem?_eq_getElem hj
      have hBs := hhs _ (List.getElem_mem hj)
      generalize hs[j] = B at hget hBs
      obtain ⟨⟨κ, s', hκ⟩, hz⟩ := hBs
      have hal := hκ.args_len
      have hk4 := hκ.le
      have hargs : ∀ x ∈ B.args, NS x := NS.args ⟨⟨κ, s', hκ⟩, hz⟩
      refine qb_of (ia_tree .i64 hget) ?_
      refine qb_of (ltr _ _) ?_
      refine callK_just (h_spec_l06Args B hκ.simple (by omega) _) ?_
      refine qb_of (x := .sl 4 true []) rfl ?_
      refine qb_of (x := .sl 1 true []) rfl ?_
      refine hJ_of fun J3 hJ3 => ?_
      have after3 : ∀ (ks : List Tr) (us : List Int) (p1 p2 : PV) (w' : St) (M5 : Int) (s : St), HS bs M5 b st w' [] [(v10, z4T)] → M5 ≤ M + 6 → TwoI w' (ks.map tree) (us.map (PV.int .i64)) p1 p2 s → (ks.length = B.args.length → ∀ (i : Nat) (x y : Tr), ks[i]? = some x → B.args[i]? = some y → LT someConsts hs L.reverse x y) → Tr.sizes ks ≤ 100 → J3 [p1] s := fun ks us p1 p2 w' M5 s h5 hM5 hg hlt hss => by
        refine hJ3 _ _ ?_
        refine hJ_of fun J5 hJ5 => ?_
        have after5 : ∀ c : Bool, (c = true → ks.length = B.args.length ∧ s' = s0) → J5 [.bool c] s := fun c hc => by
          refine hJ5 _ _ ?_
          show cb (.bool c) _
          refine br_of (fun hct => ?_) (fun _ => tail s M5 (by omega) (h5.growS hg.sub))
          obtain ⟨hkl, hs'⟩ := hc hct
          subst hs'
          obtain ⟨o1, o2, o3, o4⟩ := hg.one
          have e10 := h5.zat (v10, z4T) (by simp)
          obtain ⟨n10b, o10⟩ := h5.out v10 (by simp)
          refine qb_of (x := .agg [.int .i64 7, .int .i64 (j : Int), .str [], p1]) (struct3 p1 ⟨o1, o2, o3, o4⟩) ?_
          refine e_store_ptr (hg.sub _ _ e10) (by show (true && (true && (true && (p1.cellOK && true)))) = true; rw [o4]; rfl) rfl rfl (by simp [z4T]) ?_
          have hs := hg.store (o' := .cells [.int .i64 7, .int .i64 (j : Int), .str [], p1]) e10
          rw [show setRange z4T 0 (PV.agg [.int .i64 7, .int .i64 (j : Int), .str [], p1]).cells = [.int .i64 7, .int .i64 (j : Int), .str [], p1] by rfl]
          refine qb_of (x := .agg [.int .i64 7, .int .i64 (j : Int), .str [], p1]) (by rw [q_load_ptr (upd_same _ _ _)]; rfl) ?_
          refine retR_via hs.tree ?_
          refine Drew.fin ⟨_, rfl, ?_, ?_, .hole⟩ ?_ ?_
          · exact LT.hole (b := B) hget (LS.of hκ ks (by omega) (hlt hkl))
          · rw [Tr.size_kids]
            show 1 + Tr.sizes ks ≤ _
            have := pS_pos D
            omega
          · refine (h5.src.mono (by omega)).same ?_
            rw [upd_ne _ _ (Ne.symm n10b)]
          · intro c o hcb h0
            rw [upd_ne _ _ (fun e => by rw [e, o10] at h0; cases h0)]
            exact h5.ar c o hcb h0
        refine qb_of (x := .int .i64 (ks.length : Int)) (by have := hg.len; simpa using this) ?_
        refine qb_of (x := .int .i64 (B.args.length : Int)) (by simp) ?_
        refine qb_of (x := .bool (decide (ks.length = B.args.length))) (by simp; omega) ?_
        refine cbr_dec (fun hkl => ?_) (fun _ => after5 false (fun h => by cases h))
        refine qb_of (ia_tree .i64 hget) ?_
        refine qb_of (ltr _ _) ?_
        refine qb_of f2 ?_
        refine qb_of (l2 _) ?_
        refine callK_just (h_spec_l03Target hκ _) ?_
        refine ⟨l2 _, ?_⟩
        refine qb_of (x := .str s') (by simp [tree_eq, Tr.base, q_field]) ?_
        refine qb_of (x := .bool (decide (s' = s0))) (by simp) ?_
        exact after5 _ (fun h => ⟨hkl, of_decide_eq_true h⟩)
      refine loop_idx (β := List Tr × List Int × PV × PV × St × Int × St) B.args (fun z i => [z.2.2.1, z.2.2.2.1, .int .i64 (i : Int)]) (fun z => z.2.2.2.2.2.2)
        (fun z i rest => HS bs z.2.2.2.2.2.1 b st z.2.2.2.2.1 [] [(v10, z4T)] ∧ z.2.2.2.2.2.1 ≤ M + 2 + i ∧ i + rest.length ≤ 4 ∧ TwoI z.2.2.2.2.1 (z.1.map tree) (z.2.1.map (PV.int .i64)) z.2.2.1 z.2.2.2.1 z.2.2.2.2.2.2 ∧ z.1.length ≤ i ∧ z.2.1.length ≤ i ∧ (z.1.length = i → ∀ (j : Nat) (x y : Tr), z.1[j]? = some x → B.args[j]? = some y → LT someConsts hs L.reverse x y) ∧ Tr.sizes z.1 ≤ Tr.sizes (B.args.take i))
        ?_ ?_ ([], [], .sl 4 true [], .sl 1 true [], w2, _, w2) ⟨h2, by simp only; omega, by omega, TwoI.start _ _ _, Nat.le_refl _, Nat.le_refl _, by simp, by simp⟩
      · rintro i y rest ⟨ks, us, p1, p2, w', M5, s⟩ hi hy ⟨h5, hM5, hi4, hg, hkl, hul, hlt, hss⟩ kk
        simp only at h5 hM5 hg hkl hul hlt hss
        have hBz := Tr.args_size B hκ.simple
        have htk : ∀ n, Tr.sizes (B.args.take n) ≤ Tr.sizes B.args := fun n => by
          have e := congrArg Tr.sizes (List.take_append_drop n B.args)
          rw [sizes_app] at e
          omega
        rw [List.length_cons] at hi4
        have hyn := hargs y (List.mem_of_getElem? hy)
        refine hJ_of fun J7 hJ7 => ?_
        have main7 : ∀ c : Bool, J7 [.bool c] s := fun c => by
          refine hJ7 _ _ ?_
          show cb (.bool c) _
          refine br_of (fun _ => ?_) (fun _ => after3 ks us p1 p2 w' M5 s h5 (by omega) hg (fun h => by omega) (by have := htk i; omega))
          refine qb_of (x := .int .i64 (L.length : Int)) (by simp) ?_
          refine qb_of (x := .int .i64 ((L.length + 1 : Nat) : Int)) (by simp; rw [wrap64 (by omega) (by omega)]) ?_
          obtain ⟨ob, hob⟩ := h5.src.some
          have hsrc : Src bs M5 b s := h5.src.same (by rw [hob]; exact hg.sub _ _ hob)
          refine callK_drew (h_spec_l00Src_next bs hbs M5 (by omega) ((L.length + 1 : Nat) : Int) (by omega) b s hsrc) (fun q o hq hs' => ?_)
          obtain ⟨fr, rfl, f0, f1⟩ := hq
          obtain ⟨fr, rfl⟩ : ∃ j : Nat, fr = (j : Int) := ⟨fr.toNat, by omega⟩
          have h6 := h5.redraw (o := o) (hs'.same (by rw [upd_same, upd_same]))
          have hg2 := hg.store (o' := o) hob
          generalize upd s b o = s2 at hg2
          generalize upd w' b o = w2' at h6 hg2
          refine loop_idx (β := Unit) L (fun _ k => [p1, p2, .int .i64 (k : Int)]) (fun _ => s2) (fun _ _ _ => True) ?_ ?_ () trivial
          · intro k z rest' _ hk hz' _ kk2
            refine qb_of (x := .int .i64 (L.length : Int)) (by simp) ?_
            refine qb_of (x := .bool true) (by simp [hk]) ?_
            rw [cb_bool, br_true]
            refine qb_of (x := .int .i64 ((fr + k : Nat) : Int)) (by simp; rw [wrap64 (by omega) (by omega)]) ?_
            refine qb_of (x := .int .i64 (L.length : Int)) (by simp) ?_
            have hmod : (fr + k) % L.length < L.length := Nat.mod_lt _ (by omega)
            refine qb_of (x := .int .i64 (((fr + k) % L.length : Nat) : Int)) (by
              rw [q_bin_int, q_rem_nat (by omega) (by omega), Int.toNat_natCast]) ?_
            generalize (fr + k) % L.length = v at hmod
            refine hJ_of fun J9 hJ9 => ?_
            have main9 : ∀ c : Bool, (c = true → L.reverse[v]? = some y) → J9 [.bool c] s2 := fun c hc => by
              refine hJ9 _ _ ?_
              show cb (.bool c) _
              refine br_of (fun hct => ?_) (fun _ => ?_)
              · have hgv := hc hct
                refine qb_of (x := .sl 1 true [.int .i64 (v : Int)]) rfl ?_
                refine hg2.snd (by simp; omega) fun p2' s3 hg3 => ?_
                refine qb_of (ia_tree .i64 hy) ?_
                refine qb_of (ltr _ _) ?_
                refine callK_just (h_spec_l01Var0 (v : Int) _) ?_
                refine ⟨ltr _ _, ?_⟩
                refine callK_just (h_spec_l03Long (Tr.var (v : Int) []) y hyn.simple (by have := hyn.2; omega) (by rw [size_varK]; simp [Tr.sizes]) _) ?_
                refine qb_of (x := .sl 4 true [tree (longV (v : Int) y)]) (by simp) ?_
                refine hg3.fst (by simp; omega) fun p1' s4 hg4 => ?_
                refine qb_of (qinc (by omega)) ?_
                refine kk (ks ++ [longV (v : Int) y], us ++ [(v : Int)], p1', p2', w2', M5 + 1, s4) ⟨h6, by simp only; omega, by omega, by simpa using hg4, by simp; omega, by simp; omega, ?_, by
                  simp only
                  rw [List.take_add_one, hy, show Tr.sizes (ks ++ [longV (v : Int) y]) = Tr.sizes ks + (longV (v : Int) y).size by simp [Tr.sizes], show Tr.sizes (B.args.take i ++ (some y).toList) = Tr.sizes (B.args.take i) + y.size by simp [Tr.sizes], longV_size _ y rfl hyn.simple]
                  omega⟩
                intro hlen j x u hx hu
                simp only [List.length_append, List.length_cons, List.length_nil] at hlen
                simp only at hx
                by_cases hj : j < ks.length
                · rw [List.getElem?_append_left hj] at hx; exact hlt (by omega) j x u hx hu
                · have hji : j = i := by
                    have := (List.getElem?_eq_some_iff.1 hx).1
                    simp at this; omega
                  subst hji
                  rw [List.getElem?_append_right (by omega), show j - ks.length = 0 by omega] at hx
                  simp only [List.getElem?_cons_zero, Option.some.injEq] at hx
                  rw [hy] at hu
                  injection hu with hu
                  rw [← hx, ← hu]
                  exact longV_LT someConsts hs _ y rfl hyn.1 L.reverse v (by omega) hgv
              · refine qb_of (qinc (by omega)) ?_
                exact kk2 () trivial
            refine callK_just (h_spec_l06Place (l := us) (v : Int) hg2.reads (by omega) ) ?_
            refine qb_of (x := .bool (decide (place us (v : Int) < 0))) (by simp) ?_
            refine cbr_dec (fun _ => ?_) (fun _ => main9 false (fun h => by cases h))
            refine qb_of (x := .int .i64 (L.length : Int)) (by simp) ?_
            refine qb_of (qdec (by omega)) ?_
            refine qb_of (x := .int .i64 ((L.length - 1 - v : Nat) : Int)) (by simp; rw [wrap64 (by omega) (by omega)]; omega) ?_
            obtain ⟨u, hu⟩ : ∃ u, L[L.length - 1 - v]? = some u := ⟨_, List.getElem?_eq_getElem (by omega)⟩
            refine qb_of (ia_tree .i64 hu) ?_
            refine qb_of (ltr _ _) ?_
            refine qb_of (ia_tree .i64 hy) ?_
            refine qb_of (ltr _ _) ?_
            refine callK_just (h_spec_l01Same u y _) ?_
            exact main9 _ (fun h => by
              rw [List.getElem?_reverse (by omega), hu, of_decide_eq_true h])
          · intro _ _
            refine qb_of (x := .int .i64 (L.length : Int)) (by simp) ?_
            refine qb_of (x := .bool false) (by simp) ?_
            rw [cb_bool, br_false]
            refine qb_of (qinc (by omega)) ?_
            exact kk (ks, us, p1, p2, w2', M5 + 1, s2) ⟨h6, by simp only; omega, by omega, hg2, by simp only; omega, by simp only; omega, fun h => (by simp only at h; omega), by
              simp only
              rw [List.take_add_one, show Tr.sizes (B.args.take i ++ (B.args[i]?).toList) = Tr.sizes (B.args.take i) + Tr.sizes ((B.args[i]?).toList) by simp [Tr.sizes]]
              omega⟩
        refine qb_of (x := .int .i64 (B.args.length : Int)) (by simp) ?_
        refine qb_of (x := .bool true) (by simp [hi]) ?_
        rw [cb_bool, br_true]
        refine qb_of (ia_tree .i64 hget) ?_
        refine qb_of (ltr _ _) ?_
        refine qb_of f2 ?_
        refine qb_of (l2 _) ?_
        refine callK_just (h_spec_l03Target hκ _) ?_
        refine ⟨l2 _, ?_⟩
        refine qb_of (x := .str s') (by simp [tree_eq, Tr.base, q_field]) ?_
        refine qb_of (x := .bool (decide (s' = s0))) (by simp) ?_
        exact main7 _
      · rintro ⟨ks, us, p1, p2, w', M5, s⟩ ⟨h5, hM5, hi4, hg, hkl, hul, hlt, hss⟩
        simp only at h5 hM5 hg hkl hul hlt hss
        have hBz := Tr.args_size B hκ.simple
        rw [List.take_length] at hss
        refine hJ_of fun J7 hJ7 => ?_
        refine qb_of (x := .int .i64 (B.args.length : Int)) (by simp) ?_
        refine qb_of (x := .bool false) (by simp) ?_
        rw [cb_bool, br_false]
        refine hJ7 _ _ ?_
        show cb (.bool false) _
        rw [cb_bool, br_false]
        exact after3 ks us p1 p2 w' M5 s h5 (by omega) hg hlt (by omega)
    refine qb_of (x := .int .i64 (hs.length : Int)) (by simp) ?_
    refine qb_of (x := .bool (decide (0 < hs.length))) (by simp) ?_
    refine cbr_dec (fun hp => ?_) (fun _ => main false w1 M (fun h => by cases h) (by omega) h1)
    refine h1.drew (h_spec_l00Src_chance bs hbs M (by omega) 3 (by omega) b w1 h1.src) fun q w2 hq h2 => ?_
    obtain ⟨c, rfl⟩ := hq
    exact main c w2 _ (fun _ => hp) (by omega) h2
end Go.H.Tryz
set_option linter.unusedVariables false
set_option linter.unusedSimpArgs false
namespace Go.H.Tryz
open Go Go.H

theorem LT_base {cs : List Ty} {hs ctx : List Tr} {t a : Tr} (h : LT cs hs ctx t a) (h4 : t.kind ≠ 4) : ∃ s, a = .base s := by
  cases h with
  | lam _ => exact absurd rfl h4
  | var _ _ => exact ⟨_, rfl⟩
  | hole _ _ => exact ⟨_, rfl⟩
  | const _ _ => exact ⟨_, rfl⟩
theorem Lb_kids {n : Nat} {t : Tr} (h : Lb n t) (h4 : t.kind ≠ 4) (h7 : t.kind ≠ 7) : ∀ x ∈ t.kids, Lb n x := by
  cases h with
  | lam _ => exact absurd rfl h4
  | hole => exact absurd rfl h7
  | app _ h => exact h
theorem Lb_lam {n : Nat} {u : Tr} (h : Lb n (.lam u)) : ∃ m, n = m + 1 ∧ Lb m u := by
  generalize ht : Tr.lam u = t at h
  cases h with
  | @lam n m w t h =>
    unfold Tr.lam at ht
    injection ht with _ _ _ e
    simp only [List.cons.injEq, and_true] at e
    subst e
    exact ⟨n, rfl, h⟩
  | hole => simp [Tr.lam] at ht
  | app hk _ => unfold Tr.lam at ht; injection ht with e; exact absurd e.symm hk
theorem patC2 {d : Nat} (h : d ≤ 2) : patC d ≤ 295 := by
  match d, h with
  | 0, _ => decide
  | 1, _ => decide
  | 2, _ => decide
set_option maxHeartbeats 1000000 in
set_option maxRecDepth 100000 in
theorem h_spec_l00Src_varied (bs : List UInt8) (hbs : bs.length ≤ 1000000000) (b : Nat) (hs : List Tr) (hhs : ∀ x ∈ hs, NS x) (hhl : hs.length ≤ 40) : ∀ (N : Nat) (t : Tr), t.size ≤ N → ∀ (d : Int) (L : List Tr) (a : Tr) (k : Nat) (s0 : List UInt8) (n : Nat) (M : Int) (st : St), d ≤ 2 → -50000 + (t.size : Int) ≤ d → LT someConsts hs L.reverse t a → Lb n t → Nice k s0 a → a.size ≤ 100 → (∀ x ∈ L, NS x) → L.length + n + 20 ≤ 100 → t.size ≤ 20000 → M + (t.size * 300 : Nat) ≤ 100000000 → Src bs M b st →
    HCalls prog n_spec_l00Src_varied [.ptr b 0, trees L, trees hs, tree t, tree a, .int .i64 d] st (Drew bs (M + (t.size * 300 : Nat)) b (ATree fun _ => True) st) := by
  intro N
  induction N with
  | zero => intro t hN; have := t.size_pos; omega
  | succ N ih =>
  intro t hN d L a k s0 n M st hd1 hd2 ht hlb ha haz hL hLl hts hM hsrc
  have hM0 := src_pos hsrc
  have htp := t.size_pos
  have hk := ha.le
  have hpc := patC2 (d := d.toNat) (by omega)
  apply c_spec_l00Src_varied
  unfold b_spec_l00Src_varied
  refine e_box_ref (tree_isJunk _) ?_
  refine e_box_ref (tree_isJunk _) ?_
  refine (HS.start hsrc).alloc fun v12 w1 h1 => ?_
  refine h1.drew (h_spec_l00Src_chance bs hbs M (by omega) 5 (by omega) b w1 h1.src) fun q w2 hq h2 => ?_
  obtain ⟨c, rfl⟩ := hq
  rw [cb_bool]
  refine br_of (fun _ => ?_) (fun _ => ?_)
  · refine qb_of (ltr _ _) ?_
    refine h2.drew (h_spec_l00Src_pattern bs hbs b hs hhs hhl (5 * d.toNat + k) d.toNat k (Nat.le_refl _) d rfl (by omega) L a s0 (M + 1) w2 ha haz hL (by omega) (by omega) (by omega) h2.src) fun q w3 hq h3 => ?_
    obtain ⟨u, rfl, _⟩ := hq
    refine h3.store (Box.tree u) rfl fun w4 h4 => ?_
    refine qb_of (h4.top (Box.tree u)) ?_
    exact (h4.mono (show M + 1 + patC d.toNat ≤ M + (t.size * 300 : Nat) by omega)).fin ⟨u, rfl, trivial⟩
  · refine qb_of (x := .ref (tree t).cells) (by simp [q_fa]) ?_
    refine qb_of (x := .int .i64 t.kind) (by simp) ?_
    refine qb_of (x := .bool (decide (t.kind = 4))) (by simp) ?_
    refine cbr_dec (fun h4 => ?_) (fun h4 => ?_)
    · obtain ⟨u, x, y, rfl, rfl, hu⟩ := ht.lam_inv h4
      rw [size_lam] at hN hd2 hts hM ⊢
      obtain ⟨m, rfl, hlbu⟩ := Lb_lam hlb
      rw [arrow_size] at haz
      obtain ⟨k, rfl⟩ : ∃ j, k = j + 1 := by
        cases k with
        | zero => exact absurd ha.zero (by simp [Tr.arrow, Tr.base])
        | succ j => exact ⟨j, rfl⟩
      obtain ⟨j, s', x2, y2, e, hx, hy⟩ := ha.succ
      obtain ⟨rfl, rfl⟩ : x2 = x ∧ y2 = y := by
        unfold Tr.arrow at e
        injection e with _ _ _ e
        simp only [List.cons.injEq, and_true] at e
        exact ⟨e.1.symm, e.2.symm⟩
      have k3 : ∀ s : St, q_load s false 1 (.ref ((tree (Tr.arrow x2 y2)).cells.drop 3)) = some (.sl 4 false [tree x2, tree y2]) := fun s => by simp [Tr.arrow, tree_cells, Tr.kids, takeV]
      have f3 : q_fa 3 (.ref (tree (Tr.arrow x2 y2)).cells) = some (.ref ((tree (Tr.arrow x2 y2)).cells.drop 3)) := by simp [q_fa]
      have k3u : ∀ s : St, q_load s false 1 (.ref ((tree (Tr.lam u)).cells.drop 3)) = some (.sl 4 false [tree u]) := fun s => by simp [Tr.lam, tree_cells, Tr.kids, takeV]
      have f3u : q_fa 3 (.ref (tree (Tr.lam u)).cells) = some (.ref ((tree (Tr.lam u)).cells.drop 3)) := by simp [q_fa]
      refine qb_of f3 ?_
      refine qb_of (k3 _) ?_
      refine qb_of (x := .ref (tree x2).cells) rfl ?_
      refine qb_of (ltr _ _) ?_
      refine qb_of f3u ?_
      refine qb_of (k3u _) ?_
      refine qb_of (x := .ref (tree u).cells) rfl ?_
      refine qb_of (ltr _ _) ?_
      refine qb_of f3 ?_
      refine qb_of (k3 _) ?_
      refine qb_of (x := .ref (tree y2).cells) rfl ?_
      refine qb_of (ltr _ _) ?_
      refine callK_just (h_spec_l04More L x2 (by omega) _) ?_
      refine ⟨ltr _ _, k3 _, ltr _ _, k3u _, ?_⟩
      refine h2.drew (ih u (by omega) d (L ++ [x2]) y2 k s0 m (M + 1) w2 hd1 (by omega) (by rw [List.reverse_append]; exact hu) hlbu hy (by omega) (fun z hz => by
        rcases List.mem_append.1 hz with hz | hz
        · exact hL z hz
        · simp only [List.mem_singleton] at hz; subst hz; exact ⟨⟨_, _, hx⟩, by omega⟩) (by simp; omega) (by omega) (by omega) h2.src) fun q w3 hq h3 => ?_
      obtain ⟨v, rfl, _⟩ := hq
      refine callK_just (h_spec_l01Lam v _) ?_
      refine h3.store (Box.tree _) rfl fun w4 h4 => ?_
      refine qb_of (h4.top (Box.tree _)) ?_
      exact (h4.mono (show M + 1 + (u.size * 300 : Nat) ≤ M + ((1 + u.size) * 300 : Nat) by omega)).fin ⟨_, rfl, trivial⟩
    · refine qb_of (x := .ref (tree t).cells) (by simp [q_fa]) ?_
      refine qb_of (x := .int .i64 t.kind) (by simp) ?_
      refine qb_of (x := .bool (decide (t.kind = 7))) (by simp) ?_
      refine cbr_dec (fun h7 => ?_) (fun h7 => ?_)
      · refine qb_of (ltr _ _) ?_
        refine h2.store (Box.tree t) rfl fun w3 h3 => ?_
        refine qb_of (h3.top (Box.tree t)) ?_
        exact (h3.mono (show M + 1 ≤ M + (t.size * 300 : Nat) by omega)).fin ⟨t, rfl, trivial⟩
      · obtain ⟨sb, rfl⟩ := LT_base ht h4
        obtain ⟨hk0, hs0⟩ := nice_base ha
        subst hs0
        obtain ⟨B, hls, hB⟩ := ht.headH.resolve_left h7
        have hkl := Lb_kids hlb h4 h7
        refine qb_of (x := .sl 4 true []) rfl ?_
        refine qb_of (x := .ref (tree t).cells) (by simp [q_fa]) ?_
        refine qb_of (x := .int .i64 t.kind) (by simp) ?_
        refine qb_of (x := .bool (decide (t.kind = 5))) (by simp) ?_
        refine hJ_of fun J hJ => ?_
        have f3 : q_fa 3 (.ref (tree t).cells) = some (.ref ((tree t).cells.drop 3)) := by simp [q_fa]
        have l3 : ∀ s : St, q_load s false 1 (.ref ((tree t).cells.drop 3)) = some (.sl 4 false (t.kids.map tree)) := fun s => by simp
        have after : ∀ (κ : Nat) (s' : List UInt8), Nice κ s' B → NS B → J [trees B.args] w2 := fun κ s' hBn hBs => by
          refine hJ _ _ ?_
          have hsz := t.size_kids
          refine qb_of (x := .sl 4 true []) rfl ?_
          refine hJ_cv fun J1 hJ1 => ?_
          refine loop_idx (β := List Tr × PV × St × Int × St) t.kids (fun z i => [z.2.1, .int .i64 (i : Int)]) (fun z => z.2.2.2.2)
            (fun z i rest => HS bs z.2.2.2.1 b st z.2.2.1 [] [(v12, [.int .i64 0, .int .i64 0, .str [], .sl 0 true []])] ∧ z.2.2.2.1 + (Tr.sizes rest * 300 : Nat) ≤ M + (t.size * 300 : Nat) ∧ Grow z.2.2.1 4 (z.1.map tree) z.2.1 z.2.2.2.2 ∧ z.1.length = i)
            ?_ ?_ ([], .sl 4 true [], w2, _, w2) ⟨h2, by simp only; omega, Grow.nil _ _ _, rfl⟩
          · rintro i x rest ⟨ks, p, w5, M5, s⟩ hi hx ⟨h5, hM5, hg, hkl'⟩ kk
            simp only at h5 hM5 hg hkl'
            rw [sizes_consK] at hM5
            have hxm := List.mem_of_getElem? hx
            have hxs := Tr.kid_size hxm
            have hlen := t.kids_len
            obtain ⟨y, hy, hlt⟩ := hls.get hBn i x hx
            have hys := hBs.args y (List.mem_of_getElem? hy)
            obtain ⟨⟨ky, sy, hny⟩, hyz⟩ := hys
            refine qb_of f3 ?_
            refine qb_of (l3 _) ?_
            refine qb_of (x := .int .i64 (t.kids.length : Int)) (by simp) ?_
            refine qb_of (x := .bool true) (by simp [hi]) ?_
            rw [cb_bool, br_true]
            refine qb_of f3 ?_
            refine qb_of (l3 _) ?_
            refine qb_of (ia_tree .i64 hx) ?_
            refine qb_of (ltr _ _) ?_
            refine qb_of (ia_tree .i64 hy) ?_
            refine qb_of (ltr _ _) ?_
            refine qb_of (qdec (by omega)) ?_
            obtain ⟨ob, hob⟩ := h5.src.some
            have hsrc5 : Src bs M5 b s := h5.src.same (by rw [hob]; exact hg.sub _ _ hob)
            have hx20 : x.size ≤ 20000 := by omega
            have hM6 : M5 + (x.size * 300 : Nat) ≤ 100000000 := by omega
            have hd3 : -50000 + (x.size : Int) ≤ d - 1 := by omega
            have hcall := ih x (by omega) (d - 1) L y ky sy n M5 s (by omega) hd3 hlt (hkl x hxm) hny hyz hL hLl hx20 hM6 hsrc5
            refine callK_drew hcall (fun q o hq hs' => ?_)
            obtain ⟨u, rfl, _⟩ := hq
            have h6 := h5.redraw (o := o) (hs'.same (by rw [upd_same, upd_same]))
            have hg2 := hg.store o hob
            refine qb_of (x := .sl 4 true [tree u]) (by simp) ?_
            refine hg2.append (ys := [tree u]) (elems_sl _ _ _ _) (by simp; omega) fun p' s1 hg3 => ?_
            refine qb_of (qinc (by omega)) ?_
            exact kk (ks ++ [u], p', upd w5 b o, M5 + (x.size * 300 : Nat), s1) ⟨h6, by simp only; omega, by simpa using hg3, by simp [hkl']⟩
          · rintro ⟨ks, p, w5, M5, s⟩ ⟨h5, hM5, hg, hkl'⟩
            simp only at h5 hM5 hg hkl'
            refine qb_of f3 ?_
            refine qb_of (l3 _) ?_
            refine qb_of (x := .int .i64 (t.kids.length : Int)) (by simp) ?_
            refine qb_of (x := .bool false) (by simp) ?_
            rw [cb_bool, br_false]
            refine hJ1 [p] s [trees ks] w5 hg.freeze ?_
            refine qb_of (ltr _ _) ?_
            refine callK_just (h_spec_l01With t ks _) ?_
            refine h5.store (Box.tree _) rfl fun w6 h6 => ?_
            refine qb_of (h6.top (Box.tree _)) ?_
            exact (h6.mono (show M5 ≤ M + (t.size * 300 : Nat) by omega)).fin ⟨_, rfl, trivial⟩
        refine cbr_dec (fun h5 => ?_) (fun h5 => ?_)
        · obtain ⟨m, _, hn, hget⟩ | ⟨h6, _⟩ := hB
          · have hlt := (List.getElem?_eq_some_iff.1 hget).1
            simp only [List.length_reverse] at hlt
            rw [List.getElem?_reverse (by omega)] at hget
            have hBL := hL B (List.mem_of_getElem? hget)
            obtain ⟨⟨κ, s', hκ⟩, hz⟩ := hBL
            refine qb_of (x := .int .i64 (L.length : Int)) (by simp) ?_
            refine qb_of (qdec (by omega)) ?_
            refine qb_of (x := .ref ((tree t).cells.drop 1)) (by simp [q_fa]) ?_
            refine qb_of (x := .int .i64 (m : Int)) (by simp [hn]) ?_
            refine qb_of (x := .int .i64 ((L.length - 1 - m : Nat) : Int)) (by simp; rw [wrap64 (by omega) (by omega)]; omega) ?_
            refine qb_of (ia_tree .i64 hget) ?_
            refine qb_of (ltr _ _) ?_
            refine callK_just (h_spec_l06Args B hκ.simple (by omega) _) ?_
            exact after κ s' hκ ⟨⟨κ, s', hκ⟩, hz⟩
          · rw [h5] at h6; omega
        · obtain ⟨m, h6, _⟩ | ⟨h6, hty⟩ := hB
          · exact absurd h6 h5
          · obtain ⟨j, hj, hgo, hjt⟩ := tyGo_of someConsts 0 hty
            obtain ⟨y, hy, hyt⟩ : ∃ y, someConsts[j]? = some y ∧ y.type = B := by
              cases he : someConsts[j]? with
              | none => rw [he] at hjt; simp at hjt
              | some y => rw [he] at hjt; exact ⟨y, rfl, by simpa using hjt⟩
            have hBn := someConsts_ns y (List.mem_of_getElem? hy)
            rw [hyt] at hBn
            obtain ⟨⟨κ, s', hκ⟩, hz⟩ := hBn
            have f2 : q_fa 2 (.ref (tree t).cells) = some (.ref ((tree t).cells.drop 2)) := by simp [q_fa]
            have l2 : ∀ s : St, q_load s false 1 (.ref ((tree t).cells.drop 2)) = some (.str t.name) := fun s => by simp
            refine qb_of f2 ?_
            refine qb_of (l2 _) ?_
            refine callK_just (h_spec_l03Some _) ?_
            refine ⟨l2 _, ?_⟩
            refine callK_just (h_spec_l03Some _) ?_
            refine ⟨l2 _, ?_⟩
            refine callK_just (h_spec_l03Const someConsts t.name (by simp [someConsts]) _) ?_
            refine qb_of (x := .ref (typed y).cells) (by
              rw [show tyAt someConsts t.name = (j : Int) by unfold tyAt; rw [hgo]; simp]
              exact ia_typed .i64 hy) ?_
            refine qb_of (x := .ref (tree B).cells) (by rw [← hyt]; simp [q_fa]) ?_
            refine qb_of (ltr _ _) ?_
            refine callK_just (h_spec_l06Args B hκ.simple (by omega) _) ?_
            exact after κ s' hκ ⟨⟨κ, s', hκ⟩, hz⟩
end Go.H.Tryz
set_option linter.unusedVariables false
set_option linter.unusedSimpArgs false
namespace Go.H.Tryz
open Go Go.H

def TypesQ (n : Nat) (p : PV) : Prop := ∃ L : List Tr, p = trees L ∧ L.length ≤ n ∧ ∀ x ∈ L, NS x
theorem ns_nat : NS (.base sNat) := ⟨⟨0, _, .base (.inl rfl)⟩, by simp⟩
theorem ns_o : NS (.base sO) := ⟨⟨0, _, .base (.inr rfl)⟩, by simp⟩
theorem ns_arr {x y : Tr} {j k : Nat} {s s' : List UInt8} (hx : Nice j s' x) (hy : Nice k s y) (hk : k + 1 ≤ 4) (hs : x.size + y.size ≤ 50) : NS (.arrow x y) := ⟨⟨_, _, .arr hx hy hk⟩, by rw [arrow_size]; omega⟩
theorem nn : Nice 0 sNat (.base sNat) := .base (.inl rfl)
theorem no : Nice 0 sO (.base sO) := .base (.inr rfl)
theorem h_spec_l00Src_varTypes (bs : List UInt8) (hbs : bs.length ≤ 1000000000) (b : Nat) (M : Int) (hM : M ≤ 1000000) (st : St) (hsrc : Src bs M b st) : HCalls prog n_spec_l00Src_varTypes [.ptr b 0] st (Drew bs (M + 10) b (TypesQ 3) st) := by
  apply c_spec_l00Src_varTypes
  unfold b_spec_l00Src_varTypes
  refine callK_just (h_spec_l01Base [110, 97, 116] _) ?_
  refine (HS.start hsrc).alloc fun v3 w1 h1 => ?_
  refine h1.store (Box.tree _) rfl fun w2 h2 => ?_
  refine qb_of (x := .sl 4 true []) rfl ?_
  refine h2.drew (h_spec_l00Src_next bs hbs M (by omega) 4 (by decide) b w2 h2.src) fun q w3 hq h3 => ?_
  obtain ⟨n, rfl, n0, n1⟩ := hq
  obtain ⟨n, rfl⟩ : ∃ j : Nat, n = (j : Int) := ⟨n.toNat, by omega⟩
  refine hFix_nat (fun n ls s => ∃ (L : List Tr) (p : PV) (w : St) (M' : Int), ls = [p, .int .i64 n] ∧ HS bs M' b st w [(v3, tree (.base sNat))] [] ∧ Grow w 4 (L.map tree) p s ∧ M' + n ≤ M + 5 ∧ L.length + n ≤ 3 ∧ ∀ x ∈ L, NS x) ?_ n _ _ ⟨[], _, w3, M + 1, rfl, h3, Grow.nil _ _ _, by omega, by simp only [List.length_nil]; omega, by simp⟩
  clear n1 n0 h3 h1 h2
  rintro n _ s ⟨L, p, w, M', rfl, hw, hg, hM', hl, hns⟩ ih
  have e3 := hw.got _ (List.mem_cons_self ..)
  cases n with
  | zero =>
    refine qb_of (x := .bool false) rfl ?_
    rw [cb_bool, br_false]
    refine retR_via hg.freeze ?_
    exact (hw.mono (show M' ≤ M + 10 by omega)).fin ⟨L, rfl, by omega, hns⟩
  | succ n =>
    refine qb_of (x := .bool true) (by simp) ?_
    rw [cb_bool, br_true]
    have l3 : ∀ {s' : St}, Sub s s' → q_load s' true 4 (.ptr v3 0) = some (tree (.base sNat)) := fun hs => by rw [q_load_ptr (hs _ _ (hg.sub _ _ e3))]; simp
    refine qb_of (l3 (Sub.refl _)) ?_
    refine qb_of (l3 (Sub.refl _)) ?_
    refine qb_of (l3 (Sub.refl _)) ?_
    refine qb_of (l3 (Sub.refl _)) ?_
    refine callK_just (h_spec_l01Arrow _ _ _) ?_
    refine ⟨l3 (Sub.refl _), l3 (Sub.refl _), ?_⟩
    refine callK_just (h_spec_l01Base [111] _) ?_
    refine ⟨l3 (Sub.refl _), l3 (Sub.refl _), ?_⟩
    refine qb_of (x := .sl 4 true [tree (.base sNat), tree (.base sNat), tree (.arrow (.base sNat) (.base sNat)), tree (.base [111])]) (by simp) ?_
    obtain ⟨ob, hob⟩ := hw.src.some
    have hsrc5 : Src bs M' b s := hw.src.same (by rw [hob]; exact hg.sub _ _ hob)
    have nb : v3 ≠ b := (hw.out v3 (by simp)).1
    refine callK_drew (h_spec_l00Src_next bs hbs M' (by omega) 4 (by decide) b s hsrc5) (fun q o hq hs' => ?_)
    obtain ⟨j, rfl, j0, j1⟩ := hq
    obtain ⟨j, rfl⟩ : ∃ i : Nat, j = (i : Int) := ⟨j.toNat, by omega⟩
    have h6 := hw.redraw (o := o) (hs'.same (by rw [upd_same, upd_same]))
    have hg2 := hg.store o hob
    have l3' : q_load (upd s b o) true 4 (.ptr v3 0) = some (tree (.base sNat)) := by rw [q_load_ptr (by rw [upd_ne _ _ nb]; exact hg.sub _ _ e3)]; simp
    refine ⟨l3', l3', ?_⟩
    obtain ⟨y, hy, hyn⟩ : ∃ y, q_ia 4 (.sl 4 true [tree (.base sNat), tree (.base sNat), tree (.arrow (.base sNat) (.base sNat)), tree (.base [111])]) (.int .i64 (j : Int)) = some (.ref (tree y).cells) ∧ NS y := by
      have hj : j < 4 := by omega
      match j, hj with
      | 0, _ => exact ⟨_, rfl, ns_nat⟩
      | 1, _ => exact ⟨_, rfl, ns_nat⟩
      | 2, _ => exact ⟨_, rfl, ns_arr nn nn (by omega) (by simp)⟩
      | 3, _ => exact ⟨_, rfl, ns_o⟩
    refine qb_of hy ?_
    refine qb_of (ltr _ _) ?_
    refine qb_of (x := .sl 4 true [tree y]) (by simp) ?_
    refine hg2.append (ys := [tree y]) (elems_sl _ _ _ _) (by simp; omega) fun p' s1 hg3 => ?_
    refine qb_of (x := .int .i64 (n : Int)) (by simp; rw [wrap64 (by omega) (by omega)]) ?_
    refine ih n _ _ (by omega) ⟨L ++ [y], p', upd w b o, M' + 1, rfl, h6, by simpa using hg3, by omega, by simp; omega, fun x hx => ?_⟩
    rcases List.mem_append.1 hx with hx | hx
    · exact hns x hx
    · simp only [List.mem_singleton] at hx; subst hx; exact hyn
theorem h_spec_l00Src_holeTypes (bs : List UInt8) (hbs : bs.length ≤ 1000000000) (b : Nat) (M : Int) (hM : M ≤ 1000000) (st : St) (hsrc : Src bs M b st) : HCalls prog n_spec_l00Src_holeTypes [.ptr b 0] st (Drew bs (M + 10) b (TypesQ 4) st) := by
  apply c_spec_l00Src_holeTypes
  unfold b_spec_l00Src_holeTypes
  refine callK_just (h_spec_l01Base [110, 97, 116] _) ?_
  refine (HS.start hsrc).alloc fun v3 w1 h1 => ?_
  refine h1.store (Box.tree _) rfl fun w2 h2 => ?_
  refine callK_just (h_spec_l01Base [111] _) ?_
  refine h2.alloc fun v4 w3 h3 => ?_
  refine h3.store (Box.tree _) rfl fun w4 h4 => ?_
  have e3 := h4.load (Box.tree (.base sNat)) (v := v3) (by simp [sNat])
  have e4 := h4.load (Box.tree (.base sO)) (v := v4) (by simp [sO])
  have core : ∀ (l3 : Unit → q_load w4 true 4 (.ptr v3 0) = some (tree (.base sNat))) (l4 : Unit → q_load w4 true 4 (.ptr v4 0) = some (tree (.base sO))), True := fun _ _ => trivial
  have l3 : ∀ _ : Unit, q_load w4 true 4 (.ptr v3 0) = some (tree (.base sNat)) := fun _ => e3
  have l4 : ∀ _ : Unit, q_load w4 true 4 (.ptr v4 0) = some (tree (.base sO)) := fun _ => e4
  clear core
  refine qb_of (l3 ()) ?_
  refine qb_of (l3 ()) ?_
  refine qb_of (l3 ()) ?_
  refine qb_of (l3 ()) ?_
  refine qb_of (l3 ()) ?_
  refine qb_of (l3 ()) ?_
  refine qb_of (l4 ()) ?_
  refine qb_of (l3 ()) ?_
  refine qb_of (l4 ()) ?_
  refine qb_of (l3 ()) ?_
  refine qb_of (l3 ()) ?_
  refine qb_of (l3 ()) ?_
  refine callK_just (h_spec_l01Arrow _ _ _) ?_
  refine ⟨l3 (), l3 (), l3 (), l4 (), l3 (), l4 (), l3 (), l3 (), l3 (), l3 (), ?_⟩
  refine callK_just (h_spec_l01Arrow _ _ _) ?_
  refine ⟨l3 (), l3 (), l3 (), l4 (), l3 (), l4 (), l3 (), l3 (), ?_⟩
  refine callK_just (h_spec_l01Arrow _ _ _) ?_
  refine ⟨l3 (), l3 (), l3 (), l4 (), l3 (), l4 (), l3 (), ?_⟩
  refine callK_just (h_spec_l01Arrow _ _ _) ?_
  refine ⟨l3 (), l3 (), l3 (), l4 (), l3 (), ?_⟩
  refine callK_just (h_spec_l01Arrow _ _ _) ?_
  refine ⟨l3 (), l4 (), l3 (), ?_⟩
  refine callK_just (h_spec_l01Arrow _ _ _) ?_
  refine ⟨l4 (), l3 (), ?_⟩
  refine qb_of (x := .sl 4 true [tree (.base sNat), tree (.arrow (.base sNat) (.base sNat)), tree (.arrow (.base sNat) (.arrow (.base sNat) (.base sNat))), tree (.base sO), tree (.arrow (.base sNat) (.base sO)), tree (.arrow (.arrow (.base sNat) (.base sNat)) (.base sNat))]) (by simp) ?_
  refine qb_of (x := .sl 4 true []) rfl ?_
  refine h4.drew (h_spec_l00Src_next bs hbs M (by omega) 4 (by decide) b w4 h4.src) fun q w5 hq h5 => ?_
  obtain ⟨n, rfl, n0, n1⟩ := hq
  obtain ⟨n, rfl⟩ : ∃ j : Nat, n = (j : Int) := ⟨n.toNat, by omega⟩
  refine hFix_nat (fun n ls s => ∃ (L : List Tr) (p : PV) (w : St) (M' : Int) (Ls : List (Nat × PV)), ls = [p, .int .i64 ((n : Int) - 1)] ∧ HS bs M' b st w Ls [] ∧ Grow w 4 (L.map tree) p s ∧ M' + n ≤ M + 6 ∧ L.length + n ≤ 4 ∧ ∀ x ∈ L, NS x) ?_ (n + 1) _ _ ⟨[], _, w5, M + 1, _, by rw [show (((n + 1 : Nat) : Int) - 1) = (n : Int) by omega], h5, Grow.nil _ _ _, by omega, by simp only [List.length_nil]; omega, by simp⟩
  clear n1 n0 h5 h1 h2 h3 h4 l3 l4 e3 e4
  rintro n _ s ⟨L, p, w, M', Ls, rfl, hw, hg, hM', hl, hns⟩ ih
  cases n with
  | zero =>
    refine qb_of (x := .bool false) rfl ?_
    rw [cb_bool, br_false]
    refine retR_via hg.freeze ?_
    exact (hw.mono (show M' ≤ M + 10 by omega)).fin ⟨L, rfl, by omega, hns⟩
  | succ n =>
    refine qb_of (x := .bool true) (by simp) ?_
    rw [cb_bool, br_true]
    obtain ⟨ob, hob⟩ := hw.src.some
    have hsrc5 : Src bs M' b s := hw.src.same (by rw [hob]; exact hg.sub _ _ hob)
    refine callK_drew (h_spec_l00Src_next bs hbs M' (by omega) 6 (by decide) b s hsrc5) (fun q o hq hs' => ?_)
    obtain ⟨j, rfl, j0, j1⟩ := hq
    obtain ⟨j, rfl⟩ : ∃ i : Nat, j = (i : Int) := ⟨j.toNat, by omega⟩
    have h6 := hw.redraw (o := o) (hs'.same (by rw [upd_same, upd_same]))
    have hg2 := hg.store o hob
    obtain ⟨y, hy, hyn⟩ : ∃ y, q_ia 4 (.sl 4 true [tree (.base sNat), tree (.arrow (.base sNat) (.base sNat)), tree (.arrow (.base sNat) (.arrow (.base sNat) (.base sNat))), tree (.base sO), tree (.arrow (.base sNat) (.base sO)), tree (.arrow (.arrow (.base sNat) (.base sNat)) (.base sNat))]) (.int .i64 (j : Int)) = some (.ref (tree y).cells) ∧ NS y := by
      have hj : j < 6 := by omega
      match j, hj with
      | 0, _ => exact ⟨_, rfl, ns_nat⟩
      | 1, _ => exact ⟨_, rfl, ns_arr nn nn (by omega) (by simp)⟩
      | 2, _ => exact ⟨_, rfl, ns_arr nn (.arr nn nn (by omega)) (by omega) (by simp)⟩
      | 3, _ => exact ⟨_, rfl, ns_o⟩
      | 4, _ => exact ⟨_, rfl, ns_arr nn no (by omega) (by simp)⟩
      | 5, _ => exact ⟨_, rfl, ns_arr (.arr nn nn (by omega)) nn (by omega) (by simp)⟩
    refine qb_of hy ?_
    refine qb_of (ltr _ _) ?_
    refine qb_of (x := .sl 4 true [tree y]) (by simp) ?_
    refine hg2.append (ys := [tree y]) (elems_sl _ _ _ _) (by simp; omega) fun p' s1 hg3 => ?_
    refine qb_of (x := .int .i64 ((n : Int) - 1)) (by simp; rw [wrap64 (by omega) (by omega)]) ?_
    refine ih n _ _ (by omega) ⟨L ++ [y], p', upd w b o, M' + 1, Ls, rfl, h6, by simpa using hg3, by omega, by simp; omega, fun x hx => ?_⟩
    rcases List.mem_append.1 hx with hx | hx
    · exact hns x hx
    · simp only [List.mem_singleton] at hx; subst hx; exact hyn
end Go.H.Tryz
set_option linter.unusedVariables false
set_option linter.unusedSimpArgs false
namespace Go.H.Tryz
open Go Go.H

theorem _root_.Go.H.HS.store4 {p q r : Nat × List PV} {z : List PV} {v n : Nat} {y : PV} {K : St → Prop} {bs : List UInt8} {M : Int} {b : Nat} {st w : St} {L : List (Nat × PV)} {P : List (Nat × List PV)} (h : HS bs M b st w L (p :: q :: r :: (v, z) :: P)) (hy : Box n y) (hz : z.length = n) (hk : ∀ w', HS bs M b st w' ((v, y) :: L) (p :: q :: r :: P) → K w') : e_store w n (.ptr v 0) y K :=
  (h.perm (P' := (v, z) :: p :: q :: r :: P) (List.perm_middle (l₁ := [p, q, r]))).store hy hz hk
theorem _root_.Go.H.HS.restore {v n : Nat} {x y : PV} {K : St → Prop} {bs : List UInt8} {M : Int} {b : Nat} {st w : St} {L : List (Nat × PV)} {P : List (Nat × List PV)} (h : HS bs M b st w ((v, x) :: L) P) (hx : x.cells.length = n) (hy : Box n y) (hk : ∀ w', HS bs M b st w' ((v, y) :: L) P → K w') : e_store w n (.ptr v 0) y K := by
  have h' : HS bs M b st w L ((v, x.cells) :: P) := by
    refine ⟨h.src, h.ar, fun z hz => h.got z (by simp [hz]), fun z hz => ?_, ?_, fun c hc => h.out c ?_⟩
    · rcases List.mem_cons.1 hz with rfl | hz
      · exact h.got (v, x) (by simp)
      · exact h.zat z hz
    · exact (List.perm_middle.nodup_iff).2 h.nd
    · exact (List.perm_middle.mem_iff).1 hc
  exact h'.store hy hx hk
theorem patC3 {d : Nat} (h : d ≤ 3) : patC d ≤ 3000 := by
  match d, h with
  | 0, _ => decide
  | 1, _ => decide
  | 2, _ => decide
  | 3, _ => decide
theorem pS3 {d : Nat} (h : d ≤ 3) : pS d ≤ 8921 := by
  match d, h with
  | 0, _ => decide
  | 1, _ => decide
  | 2, _ => decide
  | 3, _ => decide
def ProbQ (p : PV) : Prop := ∃ (G hs : List Tr) (t u a : Tr), p = .tup [trees G, trees hs, tree t, tree u, tree a] ∧ G.length ≤ 3 ∧ hs.length ≤ 4 ∧ (∀ x ∈ G, NS x) ∧ (∀ x ∈ hs, NS x) ∧ NS a ∧ LT someConsts hs G.reverse t a
set_option maxHeartbeats 1000000 in
theorem h_spec_l00Src_problem (bs : List UInt8) (hbs : bs.length ≤ 1000000000) (b : Nat) (M : Int) (hM : M ≤ 1000) (st : St) (hsrc : Src bs M b st) : HCalls prog n_spec_l00Src_problem [.ptr b 0] st (Drew bs (M + 5000000) b ProbQ st) := by
  apply c_spec_l00Src_problem
  unfold b_spec_l00Src_problem
  refine (HS.start hsrc).alloc fun v4 w1 h1 => ?_
  refine h1.alloc fun v5 w2 h2 => ?_
  refine h2.alloc fun v6 w3 h3 => ?_
  have h3 : HS bs M b st w3 [] [(v4, z4T), (v5, z4T), (v6, z4T)] := h3
  refine h3.drew (h_spec_l00Src_varTypes bs hbs b M (by omega) w3 h3.src) fun q w4 hq h4 => ?_
  obtain ⟨G, rfl, hGl, hG⟩ := hq
  refine h4.drew (h_spec_l00Src_holeTypes bs hbs b _ (by omega) w4 h4.src) fun q w5 hq h5 => ?_
  obtain ⟨hs, rfl, hhl, hhs⟩ := hq
  refine callK_just (h_spec_l01Base _ _) ?_
  refine callK_just (h_spec_l01Base _ _) ?_
  refine callK_just (h_spec_l01Base _ _) ?_
  refine callK_just (h_spec_l01Base _ _) ?_
  refine callK_just (h_spec_l01Arrow _ _ _) ?_
  refine callK_just (h_spec_l01Base _ _) ?_
  refine qb_of (x := .sl 4 true [tree (.base sNat), tree (.base sO), tree (.arrow (.base sNat) (.base sNat)), tree (.base sNat)]) (by simp [sNat, sO]) ?_
  refine h5.drew (h_spec_l00Src_next bs hbs _ (by omega) 4 (by decide) b w5 h5.src) fun q w6 hq h6 => ?_
  obtain ⟨j, rfl, j0, j1⟩ := hq
  obtain ⟨j, rfl⟩ : ∃ i : Nat, j = (i : Int) := ⟨j.toNat, by omega⟩
  obtain ⟨a, hy, hNa⟩ : ∃ y, q_ia 4 (.sl 4 true [tree (.base sNat), tree (.base sO), tree (.arrow (.base sNat) (.base sNat)), tree (.base sNat)]) (.int .i64 (j : Int)) = some (.ref (tree y).cells) ∧ NS y := by
    have hj : j < 4 := by omega
    match j, hj with
    | 0, _ => exact ⟨_, rfl, ns_nat⟩
    | 1, _ => exact ⟨_, rfl, ns_o⟩
    | 2, _ => exact ⟨_, rfl, ns_arr nn nn (by omega) (by simp)⟩
    | 3, _ => exact ⟨_, rfl, ns_nat⟩
  refine qb_of hy ?_
  refine qb_of (ltr _ _) ?_
  refine h6.alloc fun v9 w7 h7 => ?_
  refine h7.store4 (Box.tree a) rfl fun w8 h8 => ?_
  obtain ⟨⟨k, s0, hna⟩, haz⟩ := id hNa
  have hk := hna.le
  generalize hMM : (M + 10 + 10 + 1 : Int) = MM at h8
  have hMb : MM ≤ 1100 := by omega
  clear hMM h1 h2 h3 h4 h5 h6 h7
  have pat : ∀ (d : Nat) (M' : Int) (w : St), d ≤ 2 → M' ≤ 10000000 → Src bs M' b w → HCalls prog n_spec_l00Src_pattern [.ptr b 0, trees G, trees hs, tree a, .int .i64 ((1 + d : Nat) : Int)] w (Drew bs (M' + patC (1 + d)) b (PatQ G hs a (pS (1 + d) + k) (4 * (1 + d) + 5 + k)) w) := fun d M' w hd hM' hsr =>
    h_spec_l00Src_pattern bs hbs b hs hhs (by omega) (5 * (1 + d) + k) (1 + d) k (Nat.le_refl _) ((1 + d : Nat) : Int) (by omega) (by omega) G a s0 M' w hna haz hG (by omega) (by omega) (by have := patC3 (d := 1 + d) (by omega); omega) hsr
  refine hJ_of fun J hJ => ?_
  have after : ∀ (v10 : Nat) (t : Tr) (w : St) (M' : Int) (d : Nat), d ≤ 2 → M' ≤ 5000 → LT someConsts hs G.reverse t a → t.size ≤ pS (1 + d) + k → Lb (4 * (1 + d) + 5 + k) t → HS bs M' b st w [(v10, tree t), (v9, tree a)] [(v4, z4T), (v5, z4T), (v6, z4T)] → J [.ptr v10 0] w := fun v10 t w M' d hd hM' ht hts hlb h9 => by
    have hp3 := pS3 (d := 1 + d) (by omega)
    refine hJ _ _ ?_
    refine qb_of (h9.load (Box.tree t) (v := v10) (by simp)) ?_
    refine qb_of (h9.load (Box.tree a) (v := v9) (by simp)) ?_
    have htz : M' + (t.size * 300 : Nat) ≤ 4000000 := by omega
    refine h9.drew (h_spec_l00Src_varied bs hbs b hs hhs (by omega) t.size t (Nat.le_refl _) 2 G a k s0 (4 * (1 + d) + 5 + k) M' w (by omega) (by omega) ht hlb hna haz hG (by omega) (by omega) (by omega) h9.src) fun q w10 hq h10 => ?_
    obtain ⟨u, rfl, _⟩ := hq
    refine h10.alloc fun v11 w11 h11 => ?_
    refine h11.store4 (Box.tree u) rfl fun w12 h12 => ?_
    refine h12.drew (h_spec_l00Src_chance bs hbs _ (by omega) 3 (by omega) b w12 h12.src) fun q w13 hq h13 => ?_
    obtain ⟨c, rfl⟩ := hq
    refine hJ_of fun J1 hJ1 => ?_
    have after1 : ∀ (u : Tr) (w : St) (M' : Int), M' ≤ 5000000 → HS bs M' b st w [(v11, tree u), (v10, tree t), (v9, tree a)] [(v4, z4T), (v5, z4T), (v6, z4T)] → J1 [] w := fun u w M' hM' h9 => by
      refine hJ1 _ _ ?_
      refine qb_of (h9.load (Box.tree t) (v := v10) (by simp)) ?_
      refine qb_of (h9.load (Box.tree u) (v := v11) (by simp)) ?_
      refine qb_of (h9.load (Box.tree a) (v := v9) (by simp)) ?_
      refine h9.store (Box.tree t) rfl fun w1 h1 => ?_
      refine ⟨h1.load (Box.tree a) (v := v9) (by simp), h1.load (Box.tree u) (v := v11) (by simp), ?_⟩
      refine h1.store (Box.tree u) rfl fun w2 h2 => ?_
      refine ⟨h2.load (Box.tree a) (v := v9) (by simp), ?_⟩
      refine h2.store (Box.tree a) rfl fun w3 h3 => ?_
      refine qb_of (h3.load (Box.tree t) (v := v4) (by simp)) ?_
      refine qb_of (h3.load (Box.tree u) (v := v5) (by simp)) ?_
      refine qb_of (h3.load (Box.tree a) (v := v6) (by simp)) ?_
      exact (h3.mono (show M' ≤ M + 5000000 by have := src_pos hsrc; omega)).fin ⟨G, hs, t, u, a, rfl, hGl, hhl, hG, hhs, hNa, ht⟩
    rw [cb_bool]
    refine br_of (fun _ => ?_) (fun _ => ?_)
    · refine qb_of (h13.load (Box.tree a) (v := v9) (by simp)) ?_
      refine h13.drew (h_spec_l00Src_next bs hbs _ (by omega) 3 (by decide) b w13 h13.src) fun q w14 hq h14 => ?_
      obtain ⟨e, rfl, e0, e1⟩ := hq
      obtain ⟨e, rfl⟩ : ∃ i : Nat, e = (i : Int) := ⟨e.toNat, by omega⟩
      refine ⟨h14.load (Box.tree a) (v := v9) (by simp), ?_⟩
      refine qb_of (x := .int .i64 ((1 + e : Nat) : Int)) (by simp; rw [wrap64 (by omega) (by omega)]) ?_
      refine h14.drew (pat e _ w14 (by omega) (by omega) h14.src) fun q w15 hq h15 => ?_
      obtain ⟨u', rfl, _⟩ := hq
      refine h15.restore (tree_len u) (Box.tree u') fun w16 h16 => ?_
      exact after1 u' w16 _ (by have := patC3 (d := 1 + e) (by omega); omega) h16
    · exact after1 u w13 _ (by omega) h13
  have ld : ∀ {w : St} {M' : Int} {L : List (Nat × PV)} {P : List (Nat × List PV)}, HS bs M' b st w L P → (v9, tree a) ∈ L → q_load w true 4 (.ptr v9 0) = some (tree a) := fun h hm => h.load (Box.tree a) hm
  refine qb_of (ld h8 (by simp)) ?_
  refine ⟨?_, ?_⟩
  · refine h8.drew (h_spec_l00Src_next bs hbs _ (by omega) 3 (by decide) b w8 h8.src) fun q w9 hq h9 => ?_
    obtain ⟨d, rfl, d0, d1⟩ := hq
    obtain ⟨d, rfl⟩ : ∃ i : Nat, d = (i : Int) := ⟨d.toNat, by omega⟩
    have hp3 := patC3 (d := 1 + d) (by omega)
    refine ⟨ld h9 (by simp), ?_⟩
    refine qb_of (x := .int .i64 ((1 + d : Nat) : Int)) (by simp; rw [wrap64 (by omega) (by omega)]) ?_
    refine ⟨?_, ?_⟩
    · refine h9.drew (pat d _ w9 (by omega) (by omega) h9.src) fun q w10 hq h10 => ?_
      obtain ⟨t, rfl, ht, hts, hlb⟩ := hq
      refine h10.alloc fun v10 w11 h11 => ?_
      refine ⟨ld h11 (by simp), ?_⟩
      refine h11.store4 (Box.tree t) rfl fun w12 h12 => ?_
      exact after v10 t w12 _ d (by omega) (by omega) ht hts hlb h12
    · refine h9.alloc fun v10 w10 h10 => ?_
      refine ⟨ld h10 (by simp), ?_⟩
      refine h10.drew (pat d _ w10 (by omega) (by omega) h10.src) fun q w11 hq h11 => ?_
      obtain ⟨t, rfl, ht, hts, hlb⟩ := hq
      refine h11.store4 (Box.tree t) rfl fun w12 h12 => ?_
      exact after v10 t w12 _ d (by omega) (by omega) ht hts hlb h12
  · refine h8.alloc fun v10 w9 h9 => ?_
    refine ⟨ld h9 (by simp), ?_⟩
    refine h9.drew (h_spec_l00Src_next bs hbs _ (by omega) 3 (by decide) b w9 h9.src) fun q w10 hq h10 => ?_
    obtain ⟨d, rfl, d0, d1⟩ := hq
    obtain ⟨d, rfl⟩ : ∃ i : Nat, d = (i : Int) := ⟨d.toNat, by omega⟩
    have hp3 := patC3 (d := 1 + d) (by omega)
    refine ⟨ld h10 (by simp), ?_⟩
    refine qb_of (x := .int .i64 ((1 + d : Nat) : Int)) (by simp; rw [wrap64 (by omega) (by omega)]) ?_
    refine h10.drew (pat d _ w10 (by omega) (by omega) h10.src) fun q w11 hq h11 => ?_
    obtain ⟨t, rfl, ht, hts, hlb⟩ := hq
    refine h11.store4 (Box.tree t) rfl fun w12 h12 => ?_
    exact after v10 t w12 _ d (by omega) (by omega) ht hts hlb h12
def ProbOf (p : PV) : Prop := ∃ (G hs : List Tr) (t u a : Tr), p = .tup [trees G, trees hs, trees [t, u], tree a] ∧ G.length ≤ 3 ∧ hs.length ≤ 4 ∧ (∀ x ∈ G, NS x) ∧ (∀ x ∈ hs, NS x) ∧ NS a ∧ LT someConsts hs G.reverse t a
theorem h_spec_ProblemOf (bs : List UInt8) (hl : bs.length ≤ 1000000000) (st : St) : HCalls prog n_spec_ProblemOf [bytesP bs] st (GivesV st ProbOf) := by
  apply c_spec_ProblemOf
  unfold b_spec_ProblemOf
  refine (Held.start st).alloc fun v5 w h => ?_
  refine HS.begun h (h_spec_l00Source bs hl w) fun b w0 hb h0 => ?_
  refine h0.drew (h_spec_l00Src_problem bs hl b 0 (by omega) w0 h0.src) fun p w1 hp h1 => ?_
  obtain ⟨G, hs, t, u, a, rfl, hGl, hhl, hG, hhs, ha, ht⟩ := hp
  refine qb_of (x := trees G) rfl ?_
  refine qb_of (x := trees hs) rfl ?_
  refine qb_of (x := tree t) rfl ?_
  refine qb_of (x := tree u) rfl ?_
  refine qb_of (x := tree a) rfl ?_
  refine h1.alloc fun v9 w2 h2 => ?_
  refine h2.alloc fun v10 w3 h3 => ?_
  refine h3.alloc fun v11 w4 h4 => ?_
  refine h4.store2 (Box.tree t) rfl fun w5 h5 => ?_
  refine h5.store2 (Box.tree u) rfl fun w6 h6 => ?_
  refine h6.store2 (Box.tree a) rfl fun w7 h7 => ?_
  refine qb_of (h7.load (Box.tree t) (v := v9) (by simp)) ?_
  refine qb_of (h7.load (Box.tree u) (v := v10) (by simp)) ?_
  refine qb_of (x := .sl 4 true [tree t, tree u]) (by simp) ?_
  refine qb_of (h7.load (Box.tree a) (v := v11) (by simp)) ?_
  refine h7.store (Box.tree a) rfl fun w8 h8 => ?_
  refine qb_of (h8.load (Box.tree a) (v := v5) (by simp)) ?_
  refine retR_via (p' := .tup [trees G, trees hs, trees [t, u], tree a]) (s' := w8) (Conv.tup (Conv.cons (Conv.refl _ _) (Conv.cons (Conv.refl _ _) (Conv.cons (Conv.sl_to w8 4 4 true [tree t, tree u] (.inl rfl)) (Conv.refl _ _))))) ?_
  exact retR_sub (h8.sub hb) ⟨rfl, _, rfl, G, hs, t, u, a, rfl, hGl, hhl, hG, hhs, ha, ht⟩
def ClosedQ (hs : List Tr) (p : PV) : Prop := ∃ sols : List Tr, p = trees sols ∧ sols.length = hs.length ∧ ClosedTs someConsts hs sols
theorem dC2 {d : Nat} (h : d ≤ 2) : dC d ≤ 3000 := by
  match d, h with
  | 0, _ => decide
  | 1, _ => decide
  | 2, _ => decide
set_option maxHeartbeats 1000000 in
theorem h_spec_ClosedOf (bs : List UInt8) (hl : bs.length ≤ 1000000000) (hs : List Tr) (hhl : hs.length ≤ 4) (hhs : ∀ x ∈ hs, NS x) (st : St) : HCalls prog n_spec_ClosedOf [bytesP bs, trees hs] st (GivesV st (ClosedQ hs)) := by
  apply c_spec_ClosedOf
  unfold b_spec_ClosedOf
  refine HS.begun (Held.start st) (h_spec_l00Source bs hl st) fun b w0 hb h0 => ?_
  refine qb_of (x := .sl 4 true []) rfl ?_
  refine loop_idx (β := List Tr × PV × St × Int × St) hs (fun z i => [z.2.1, .int .i64 (i : Int)]) (fun z => z.2.2.2.2)
    (fun z i rest => HS bs z.2.2.2.1 b st z.2.2.1 [] [] ∧ z.2.2.2.1 ≤ (i : Int) * 4000 ∧ Grow z.2.2.1 4 (z.1.map tree) z.2.1 z.2.2.2.2 ∧ z.1.length = i ∧ ∀ j x, j < i → hs[j]? = some x → LT someConsts [] [] (z.1.getD j noTree) x)
    ?_ ?_ ([], .sl 4 true [], w0, _, w0) ⟨h0, by simp, Grow.nil _ _ _, rfl, by simp⟩
  · rintro i x rest ⟨ks, p, w5, M5, s⟩ hi hx ⟨h5, hM5, hg, hkl, hks⟩ kk
    simp only at h5 hM5 hg hkl hks
    obtain ⟨⟨k, s0, hnx⟩, hxz⟩ := hhs x (List.mem_of_getElem? hx)
    have hk := hnx.le
    have hM0 := src_pos h5.src
    refine qb_of (x := .int .i64 (hs.length : Int)) (by simp) ?_
    refine qb_of (x := .bool true) (by simp [hi]) ?_
    rw [cb_bool, br_true]
    refine qb_of (ia_tree .i64 hx) ?_
    refine qb_of (ltr _ _) ?_
    obtain ⟨ob, hob⟩ := h5.src.some
    have hsrc5 : Src bs M5 b s := h5.src.same (by rw [hob]; exact hg.sub _ _ hob)
    refine callK_drew (h_spec_l00Src_next bs hl M5 (by omega) 2 (by decide) b s hsrc5) (fun q o hq hs' => ?_)
    obtain ⟨d, rfl, d0, d1⟩ := hq
    obtain ⟨d, rfl⟩ : ∃ j : Nat, d = (j : Int) := ⟨d.toNat, by omega⟩
    have h6 := h5.redraw (o := o) (hs'.same (by rw [upd_same, upd_same]))
    have hg2 := hg.store o hob
    refine ⟨ltr _ _, ?_⟩
    refine qb_of (x := .int .i64 ((1 + d : Nat) : Int)) (by simp; rw [wrap64 (by omega) (by omega)]) ?_
    refine callK_conv (us' := [.ptr b 0, trees [], trees [], tree x, .int .i64 ((1 + d : Nat) : Int)]) (st' := upd s b o) (Conv.cons (Conv.refl _ _) (Conv.cons (Conv.sl_to _ 0 4 true [] (.inr rfl)) (Conv.cons (Conv.sl_to _ 0 4 true [] (.inr rfl)) (Conv.refl _ _)))) ?_
    obtain ⟨ob6, hob6⟩ := h6.src.some
    have hsrc6 : Src bs (M5 + 1) b (upd s b o) := h6.src.same (by rw [hob6]; exact hg2.sub _ _ hob6)
    have hdc := dC2 (d := 1 + d) (by omega)
    have hcall := h_spec_l00Src_typed bs hl b [] (by simp) (by simp) (5 * (1 + d) + k) (1 + d) k (Nat.le_refl _) ((1 + d : Nat) : Int) (by omega) (by omega) [] x s0 (M5 + 1) (upd s b o) hnx (by simp) (by simp; omega) (by omega) (by omega) hsrc6
    refine callK_drew hcall (fun q o2 hq hs2 => ?_)
    obtain ⟨u, rfl, hu, _⟩ := hq
    have h7 := h6.redraw (o := o2) (hs2.same (by rw [upd_same, upd_same]))
    have hg3 := hg2.store o2 hob6
    refine qb_of (x := .sl 4 true [tree u]) (by simp) ?_
    refine hg3.append (ys := [tree u]) (elems_sl _ _ _ _) (by simp; omega) fun p' s1 hg4 => ?_
    refine qb_of (qinc (by omega)) ?_
    refine kk (ks ++ [u], p', upd (upd w5 b o) b o2, M5 + 1 + dC (1 + d), s1) ⟨h7, by simp only; omega, by simpa using hg4, by simp [hkl], fun j y hj hy => ?_⟩
    simp only
    by_cases hji : j < i
    · rw [List.getD_eq_getElem?_getD, List.getElem?_append_left (by omega), ← List.getD_eq_getElem?_getD]; exact hks j y hji hy
    · obtain rfl : j = i := by omega
      rw [hx] at hy; cases hy
      rw [List.getD_eq_getElem?_getD, List.getElem?_append_right (by omega), hkl, Nat.sub_self]
      simpa using hu
  · rintro ⟨ks, p, w5, M5, s⟩ ⟨h5, hM5, hg, hkl, hks⟩
    simp only at h5 hM5 hg hkl hks
    refine qb_of (x := .int .i64 (hs.length : Int)) (by simp) ?_
    refine qb_of (x := .bool false) (by simp) ?_
    rw [cb_bool, br_false]
    refine retR_via hg.freeze ?_
    exact retR_sub (h5.sub hb) ⟨rfl, _, rfl, ks, rfl, hkl, fun i a ha => hks i a (List.getElem?_eq_some_iff.1 ha).1 ha⟩
end Go.H.Tryz
set_option linter.unusedVariables false
set_option linter.unusedSimpArgs false
namespace Go.H.Tryz
open Go Go.H

theorem h_impl_Fill_3 (hs sols : List Tr) (t : Tr) (h : Fills hs sols t) (st : St) :
    HCalls prog n_impl_Fill_3 [.ref (tree t).cells, .ref [trees sols], .ref [trees hs]] st (_root_.Go.H.Heads ty_impl_halt (fillT t.size hs sols t 0).1 st) := by
  have hts := (termOK_big h.ok).2.1
  apply c_impl_Fill_3
  unfold b_impl_Fill_3
  intro b3 hb3
  refine qb_of (x := .agg [.int .i64 0]) rfl ?_
  refine e_box_own rfl fun b5 hb5 => ?_
  have n35 : b3 ≠ b5 := fun e => by rw [← e, upd_same] at hb5; cases hb5
  rw [upd_ne _ _ n35.symm] at hb5
  refine qb_of (ltr _ _) ?_
  refine callK_worksR (h_impl_work_fill b5 hs sols h.so t.size t 0 _ (Nat.le_refl _) (by omega) h.known h.lamy (by omega) (by omega) (upd_same _ _ _)) (fun r k hr => ?_) (fun c k hc => ?_)
  · have e3 : ∀ z o, (upd (upd (upd st b3 z) b5 o) b5 (cntR [] k)) b3 = some z := fun z o => by rw [upd_ne _ _ n35, upd_ne _ _ n35]; exact upd_same _ _ _
    refine e_store_zero (e3 _ _) ?_
    refine qb_of (ld_tree (upd_same _ _ _)) ?_
    refine _root_.Go.H.Heads.ret (by rw [hr]) ?_
    have := ((((Sub.refl st).put hb3 (o := .cells [.int .i64 0, .int .i64 0, .str [], .sl 0 true []])).put hb5 (o := cntR [] k)).put hb3 (o := .cells (tree r).cells))
    simpa using this
  · refine _root_.Go.H.Heads.pan (by rw [hc]) ?_
    have := (((Sub.refl st).put hb3 (o := .cells [.int .i64 0, .int .i64 0, .str [], .sl 0 true []])).put hb5 (o := cntR [] k))
    simpa using this
theorem h_impl_Fill (hs sols : List Tr) (t : Tr) (h : Fills hs sols t) (st : St) : HCalls prog n_impl_Fill [trees hs, trees sols, tree t] st (Result (fillT t.size hs sols t 0).1 st) := by
  have hts := (termOK_big h.ok).2.1
  have hlen := h.so.len
  have hhl := h.hl
  have hfine := fillT_fine h.so t.size t 0 h.known h.lamy (by omega) (by omega) (Nat.le_refl _)
  apply c_impl_Fill
  unfold b_impl_Fill
  refine e_box_ref rfl ?_
  refine e_box_ref rfl ?_
  refine e_box_ref (tree_isJunk _) ?_
  refine (Held.start st).alloc fun v6 w h1 => ?_
  have k3 : ∀ s : St, q_load s false 1 (.ref (trees hs).cells) = some (trees hs) := fun _ => rfl
  have k4 : ∀ s : St, q_load s false 1 (.ref (trees sols).cells) = some (trees sols) := fun _ => rfl
  refine qb_of (k3 _) ?_
  refine qb_of (x := .int .i64 (hs.length : Int)) (by simp) ?_
  refine qb_of (k4 _) ?_
  refine qb_of (x := .int .i64 (sols.length : Int)) (by simp) ?_
  refine qb_of (x := .sl 1 true (.int .i64 (hs.length : Int) :: [(sols.length : Int)].map (.int .i64))) (by simp) ?_
  refine callK_just (h_impl_longLists _ _ (by simp) _) ?_
  rw [show (((hs.length : Int) :: [(sols.length : Int)]).any fun y => decide (y > 4096)) = false by simp; omega]
  rw [cb_bool, br_false]
  refine hJ_of fun J hJ => ?_
  have main : J [.bool false] w := by
    refine hJ _ _ ?_
    show cb (.bool false) _
    rw [cb_bool, br_false]
    refine qb_of (k4 _) ?_
    refine callK_just (h_slices_ContainsFunc_impl_Tree_impl_Tree sols n_impl_Fill_1 [] [] (fun _ => false) w (fun x hx => by simpa using h_impl_Fill_1 x (h.closed x hx) (by have := (termOK_big (h.right x hx)).2.1; omega) w)) ?_
    rw [show (sols.any fun _ => false) = false by simp, cb_bool, br_false]
    refine callK_just (h_impl_Tree_each (holeP hs.length) n_impl_Fill_2 [] [.ref [trees hs]] t 0 (by omega) (fun _ => True) (fun _ _ _ _ => trivial) trivial w (fun t d _ => by simpa using h_impl_Fill_2 hs t d w)) ?_
    rw [h.known.each, cb_bool, br_false]
    refine callK_result (h_impl_result n_impl_Fill_3 [.ref (tree t).cells, .ref [trees sols], .ref [trees hs]] (fillT t.size hs sols t 0).1 (fun c hc => hfine.2.2.1 c hc) (fun r hr => by have := small_size (hfine.2.2.2 r hr).2.1; omega) w (fun s _ => h_impl_Fill_3 hs sols t h s)) (fun r hr => ?_) (fun c hc => ?_)
    · refine qb_of (x := tree r) rfl ?_
      refine qb_of (x := .int .i64 0) rfl ?_
      refine h1.store (Box.tree r) rfl fun w2 h2 => ?_
      refine qb_of (h2.top (Box.tree r)) ?_
      exact Result.ok hr h2.sub
    · refine qb_of (x := tree noTree) rfl ?_
      refine qb_of (x := .int .i64 c) rfl ?_
      refine h1.store (Box.tree noTree) rfl fun w2 h2 => ?_
      refine qb_of (h2.top (Box.tree noTree)) ?_
      exact Result.fail hc h2.sub
  refine qb_of (k3 _) ?_
  refine callK_just (h_impl_simplesOK hs 20 _) ?_
  rw [h.simple]
  refine qb_of (x := .bool false) (by simp) ?_
  rw [cb_bool, br_false]
  refine qb_of (k4 _) ?_
  refine qb_of (x := .int .i64 (sols.length : Int)) (by simp) ?_
  refine qb_of (k3 _) ?_
  refine qb_of (x := .int .i64 (hs.length : Int)) (by simp) ?_
  refine qb_of (x := .bool false) (by simp; omega) ?_
  rw [cb_bool, br_false]
  refine qb_of (k4 _) ?_
  refine callK_just (h_slices_ContainsFunc_impl_Tree_impl_Tree sols n_impl_badTerm [] [] (fun x => !x.termOK) w (fun x hx => by simpa using h_impl_badTerm x w)) ?_
  rw [show (sols.any fun x => !x.termOK) = false by rw [List.any_eq_false]; intro x hx; rw [h.right x hx]; decide, cb_bool, br_false]
  refine qb_of (ltr _ _) ?_
  refine callK_just (h_impl_badTerm t w) ?_
  rw [h.ok]
  exact main
theorem h_laws_right (ts : List Tr) (hl : ts.length ≤ 1000000) (st : St) : HCalls prog n_laws_right [trees ts] st (Just (.bool (ts.all Tr.termOK)) st) := by
  apply c_laws_right
  unfold b_laws_right
  generalize hv : ts.all Tr.termOK = v
  refine loop_list ts (fun i => [.int .i64 (i : Int)]) st (fun rest => rest.all Tr.termOK = v) ?_ ?_ hv
  · intro i x rest hi hx hq k
    rw [List.all_cons] at hq
    refine qb_of (x := .int .i64 (ts.length : Int)) (by simp) ?_
    refine qb_of (x := .bool true) (by simp [hi]) ?_
    rw [cb_bool, br_true]
    refine qb_of (ia_tree .i64 hx) ?_
    refine qb_of (ltr _ _) ?_
    refine callK_just (h_spec_TermOK x _) ?_
    refine qb_of (x := .bool (!x.termOK)) (by simp) ?_
    rw [cb_bool]
    refine br_of (fun h => ?_) (fun h => ?_)
    · refine Just.bool ?_
      rw [← hq]
      cases hx : x.termOK <;> simp_all
    · refine qb_of (qinc (by omega)) ?_
      refine k ?_
      rw [← hq]
      cases hx : x.termOK <;> simp_all
  · intro hq
    refine qb_of (x := .int .i64 (ts.length : Int)) (by simp) ?_
    refine qb_of (x := .bool false) (by simp) ?_
    rw [cb_bool, br_false]
    exact Just.bool hq
theorem ns_simples {L : List Tr} {m : Int} (h : ∀ x ∈ L, NS x) (hm : (L.length : Int) ≤ m) : simplesOK L m = true := by
  unfold simplesOK
  rw [decide_eq_true hm, Bool.true_and, List.all_eq_true]
  intro x hx
  obtain ⟨⟨k, s, hn⟩, hz⟩ := h x hx
  exact simpleOK_of hn.simple (by omega)
theorem h_laws_FnFill (x0 x1 : List UInt8) (hb : x0.length + x1.length ≤ 1048576) (st : St) : HCalls prog n_laws_FnFill [bytesP x0, bytesP x1] st (Just (.bool true) st) := by
  apply c_laws_FnFill
  unfold b_laws_FnFill
  refine qb_of (x := .int .i64 (x0.length : Int)) (by simp [bytesP]) ?_
  refine qb_of (x := .bool false) (by simp; omega) ?_
  rw [cb_bool, br_false]
  refine qb_of (x := .int .i64 (x1.length : Int)) (by simp [bytesP]) ?_
  refine qb_of (x := .bool false) (by simp; omega) ?_
  rw [cb_bool, br_false]
  refine callK_givesV (h_spec_ProblemOf x0 (by omega) st) fun p0 hp0 => ?_
  obtain ⟨G, hs, t, t2, a, rfl, hGl, hhl, hG, hhs, ha, ht⟩ := hp0
  refine qb_of (x := trees G) rfl ?_
  refine qb_of (x := trees hs) rfl ?_
  refine qb_of (x := trees [t, t2]) rfl ?_
  refine qb_of (x := tree a) rfl ?_
  refine (Held.start st).news rfl fun v8 w1 h1 => ?_
  refine callK_givesV (h_spec_ClosedOf x1 (by omega) hs hhl hhs w1) fun p1 hp1 => ?_
  obtain ⟨sols, rfl, hsl, hC⟩ := hp1
  refine qb_of (x := .ref (tree t).cells) rfl ?_
  refine qb_of (ltr _ _) ?_
  refine callK_just (h_spec_TermOK t _) ?_
  refine qb_of (x := .bool (!t.termOK)) (by simp) ?_
  rw [cb_bool]
  refine br_of (fun _ => Just.bool rfl h1.sub) (fun hto => ?_)
  have hto : t.termOK = true := by simpa using hto
  refine callK_just (h_laws_right sols (by omega) _) ?_
  refine qb_of (x := .bool (!sols.all Tr.termOK)) (by simp) ?_
  rw [cb_bool]
  refine br_of (fun _ => Just.bool rfl h1.sub) (fun hri => ?_)
  have hri : ∀ x ∈ sols, x.termOK = true := List.all_eq_true.1 (by simpa using hri)
  have hget : ∀ i : Nat, i < hs.length → sols.getD i noTree ∈ sols := fun i hi => by
    rw [List.getD_eq_getElem?_getD, List.getElem?_eq_getElem (by omega)]; exact List.getElem_mem _
  have hgetH : ∀ i : Nat, (hi : i < hs.length) → hs.getD i noTree ∈ hs := fun i hi => by
    rw [List.getD_eq_getElem?_getD, List.getElem?_eq_getElem hi]; exact List.getElem_mem _
  have hF : Fills hs sols t := ⟨⟨hsl, fun i hi => by
      obtain ⟨o1, _, o3, _⟩ := termOK_big (hri _ (hget i hi))
      obtain ⟨⟨k, s, hn⟩, _⟩ := hhs _ (hgetH i hi)
      exact ⟨o3, o1, hn.simple⟩⟩, hhl, ns_simples hhs (by omega), hri, fun x hx => by
      obtain ⟨i, hi, rfl⟩ := List.mem_iff_getElem.1 hx
      have hi' : i < hs.length := by omega
      have := (hC i _ (List.getElem?_eq_getElem hi')).cl
      rw [List.getD_eq_getElem?_getD, List.getElem?_eq_getElem hi] at this
      simpa using this, hto, ht.known, (termOK_big hto).2.2.1⟩
  have hends := fill_ends hF hC ht (ns_simples hG (by omega)) (by obtain ⟨⟨k, s, hn⟩, hz⟩ := ha; exact simpleOK_of hn.simple (by omega))
  obtain ⟨o, d, hI, hS, hod⟩ : ∃ o d, (∀ s, HCalls prog n_impl_Fill [trees hs, trees sols, tree t] s (Just (.tup [tree o, .int .i64 d]) s)) ∧ (∀ s, HCalls prog n_spec_Fill [trees hs, trees sols, tree t] s (Just (.tup [tree o, .int .i64 d]) s)) ∧ ((d = 0 ∧ checkT someConsts G [] o a = 0) ∨ d = 11 ∨ d = 17) := by
    rcases hends with ⟨r, e, hr⟩ | e | e
    · exact ⟨r, 0, fun s => by have := h_impl_Fill hs sols t hF s; rw [e] at this; exact this, fun s => by have := h_spec_Fill hs sols t hF s; rw [e] at this; exact this, .inl ⟨rfl, hr⟩⟩
    · exact ⟨_, 11, fun s => by have := h_impl_Fill hs sols t hF s; rw [e] at this; exact this, fun s => by have := h_spec_Fill hs sols t hF s; rw [e] at this; exact this, .inr (.inl rfl)⟩
    · exact ⟨_, 17, fun s => by have := h_impl_Fill hs sols t hF s; rw [e] at this; exact this, fun s => by have := h_spec_Fill hs sols t hF s; rw [e] at this; exact this, .inr (.inr rfl)⟩
  refine qb_of (x := .ref (tree t).cells) rfl ?_
  refine qb_of (ltr _ _) ?_
  refine callK_just (hI _) ?_
  refine qb_of (x := tree o) rfl ?_
  refine qb_of (x := .int .i64 d) rfl ?_
  refine h1.news rfl fun v10 w2 h2 => ?_
  refine qb_of (x := .ref (tree t).cells) rfl ?_
  refine qb_of (ltr _ _) ?_
  refine callK_just (hS _) ?_
  refine qb_of (x := tree o) rfl ?_
  refine qb_of (x := .int .i64 d) rfl ?_
  refine h2.news rfl fun v12 w3 h3 => ?_
  refine qb_of (x := .bool false) (by simp) ?_
  rw [cb_bool, br_false]
  refine qb_of (h3.ld (t := o) (v := v10) (by simp)) ?_
  refine qb_of (h3.ld (t := o) (v := v12) (by simp)) ?_
  refine callK_just (h_laws_same _ _ _) ?_
  refine qb_of (x := .bool false) (by simp) ?_
  rw [cb_bool, br_false]
  refine callK_just (h_laws_full d _) ?_
  rcases hod with ⟨rfl, hck⟩ | rfl | rfl
  · refine cbr_f rfl ?_
    refine qb_of (x := .bool true) rfl ?_
    rw [cb_bool, br_true]
    refine qb_of (h3.ld (t := o) (v := v10) (by simp)) ?_
    refine qb_of (h3.ld (t := a) (v := v8) (by simp)) ?_
    refine callK_just (h_spec_Consts _) ?_
    refine ⟨h3.ld (t := a) (v := v8) (by simp), h3.ld (t := o) (v := v10) (by simp), ?_⟩
    refine callK_conv (us' := [typeds someConsts, trees G, trees [], tree o, tree a]) (st' := w3) (Conv.cons (Conv.refl _ _) (Conv.cons (Conv.refl _ _) (Conv.cons (Conv.sl_to w3 0 4 true [] (.inr rfl)) (Conv.refl _ _)))) ?_
    refine callK_just (h_impl_SimpleCheck someConsts G [] o a _) ?_
    rw [hck]
    refine qb_of (x := .bool true) rfl ?_
    exact Just.bool rfl h3.sub
  · refine cbr_t rfl ?_
    exact Just.bool rfl h3.sub
  · refine cbr_t rfl ?_
    exact Just.bool rfl h3.sub
end Go.H.Tryz
