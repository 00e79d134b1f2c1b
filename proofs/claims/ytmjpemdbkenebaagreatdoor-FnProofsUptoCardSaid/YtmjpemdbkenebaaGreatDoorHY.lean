/- Part of a proof that the program answers as the reference does: ZHC15, ZHC9, ZHC14, ZHC26, ZHC10, ZHC17, ZHC20, ZHC18, ZHC21, ZHC22, ZHC23, ZHC24, ZHC25. -/
import Derived.Defers
import Derived.Recover
import Derived.Test.YtmjpemdbkenebaaGreatDoorHS0
import Derived.Test.YtmjpemdbkenebaaGreatDoorHS1
import Derived.Test.YtmjpemdbkenebaaGreatDoorHS10
import Derived.Test.YtmjpemdbkenebaaGreatDoorHS2
import Derived.Test.YtmjpemdbkenebaaGreatDoorHS3
import Derived.Test.YtmjpemdbkenebaaGreatDoorHS4
import Derived.Test.YtmjpemdbkenebaaGreatDoorHS5
import Derived.Test.YtmjpemdbkenebaaGreatDoorHS6
import Derived.Test.YtmjpemdbkenebaaGreatDoorHS7
import Derived.Test.YtmjpemdbkenebaaGreatDoorHS8
import Derived.Test.YtmjpemdbkenebaaGreatDoorHS9
import Derived.Test.YtmjpemdbkenebaaGreatDoorHP
import Derived.Test.YtmjpemdbkenebaaGreatDoorHX
set_option linter.unusedVariables false
set_option linter.unusedSimpArgs false
namespace Go.H.Tryz
open Go Go.H

theorem fnCaught : prog.funcs[n_impl_caught]? = some Go.Proofs.Tryz.f25 := by kernel_rfl
theorem fnCaught1 : prog.funcs[n_impl_caught_1]? = some Go.Proofs.Tryz.f61 := by kernel_rfl
theorem ntCaught1 : Go.Proofs.Tryz.f61.ntmps = 11 := by kernel_rfl
theorem reCaught1 : Go.Proofs.Tryz.f61.results = #[] := by kernel_rfl

theorem catch_idle (p : Addr) (w : World) :
  CallsD prog n_impl_caught_1 #[.pointer (some p)] .returning w fun e u' w' => e = .returned (.tuple #[]) ∧ u' = .returning ∧ w' = w := by
 have hnil : ∀ w : World, (binOp BinOp.eql 20 .nilIface .nilIface).run prog w = .ok (.bool true) w := fun _ => by kernel_rfl
 refine callsD_of_wpS fnCaught1 rfl fun c₀ cs hu => ?_
 apply wpS_seq
 apply wpS_region
 try simp [wpOpsS, go_sem, recoverD, hu, ntCaught1, Exit.thenS]
 refine wpS_of_wp (wp_block (wp_seq (wp_region ?_)))
 try simp [wpOps, Oper.wp, Oper.upon, go_sem, Exit.then, hnil]
 left
 refine wp_cond (t := true) ?_ ?_
 ·simp [Act.eval, Array.replicate]
 simp only [if_true]
 refine wp_region ?_
 try simp [wpOps, Oper.wp, Oper.upon, go_sem, Exit.then]
 left
 cases c₀
 simp_all [bodyPostS, results, reCaught1]
theorem catch_halt (b : Nat) (c p : Int) (w : World) (st : St) (z : List PV) (hb : st b = some (.cells z)) (hz : z.length = 2) (hg : Good w st) :
  CallsD prog n_impl_caught_1 #[.pointer (some ⟨b, 0, none⟩)] (.panicking [{ v := .iface ty_impl_halt (.agg #[.int .i64 c, .int .i64 p]), recovered := false }]) w fun e u' w' => e = .returned (.tuple #[]) ∧ u' = .panicking [{ v := .iface ty_impl_halt (.agg #[.int .i64 c, .int .i64 p]), recovered := true }] ∧ Evo w st w' (upd st b (.cells [.int .i64 c, .int .i64 p])) ∧ Good w' (upd st b (.cells [.int .i64 c, .int .i64 p])) := by
 have hnil : ∀ w : World, (binOp BinOp.eql 20 (.iface ty_impl_halt (.agg #[.int .i64 c, .int .i64 p])) .nilIface).run prog w = .ok (.bool false) w := fun _ => by kernel_rfl
 have hta : ∀ w : World, (Instr.typeAssert (.iface ty_impl_halt (.agg #[.int .i64 c, .int .i64 p])) 20 ty_impl_halt true).run prog w = .ok (.tuple #[.agg #[.int .i64 c, .int .i64 p], .bool true]) w := fun _ => by kernel_rfl
 refine callsD_of_wpS fnCaught1 rfl fun c₀ cs hu => ?_
 apply wpS_seq
 apply wpS_region
 try simp [wpOpsS, go_sem, recoverD, hu, ntCaught1, Exit.thenS]
 refine wpS_of_wp (wp_block (wp_seq (wp_region ?_)))
 try simp [wpOps, Oper.wp, Oper.upon, go_sem, Exit.then, hnil]
 left
 refine wp_cond (t := false) ?_ ?_
 ·simp [Act.eval, Array.replicate]
 simp only [Bool.false_eq_true, if_false]
 refine wp_seq (wp_region ?_)
 try simp [wpOps, Oper.wp, Oper.upon, go_sem, Exit.then, hnil, hta]
 refine .inl (.inl (.inl ?_))
 refine wp_mono (zq76 tyOK mixed (ann := []) (d0 := []) (w0 := w) (st0 := st) _ [.ptr b 0, .junk, .junk, .junk, .junk, .junk, .junk, .junk, .bool true, .agg [.int .i64 c, .int .i64 p], .junk] st
  (fun e _ s => e = .normal ∧ ∃ b2, st b2 = none ∧ s = upd (upd st b2 (.cells [.int .i64 c, .int .i64 p])) b (.cells [.int .i64 c, .int .i64 p])) _ w (by kernel_rfl) ?_ ?_) ?_
 ·generalize hQ : (fun e (_ : List PV) s => e = HExit.normal ∧ ∃ b2, st b2 = none ∧ s = upd (upd st b2 (.cells [.int .i64 c, .int .i64 p])) b (.cells [.int .i64 c, .int .i64 p])) = Q
  refine Eq.mp (α := zq8 st [.int .i64 0, .int .i64 0] fun v2 st => zq4 st 2 v2 (.agg [.int .i64 c, .int .i64 p]) fun st => qb (zq0 st true 2 v2) fun v10 => zq4 st 2 (.ptr b 0) v10 fun st => Q .normal [.ptr b 0, .junk, v2, .junk, .junk, .junk, .junk, .junk, .bool true, .agg [.int .i64 c, .int .i64 p], v10] st) (by kernel_rfl) ?_
  intro b2 hb2
  have hne : b ≠ b2 := fun e => by rw [← e, hb] at hb2; cases hb2
  try simp
  have hb3 : (upd st b2 (.cells [.int .i64 c, .int .i64 p])) b = some (.cells z) := by rw [zq7 _ _ hne]; exact hb
  try simp [zq6 (zq2 _ _ _)]
  rw [zqh _ _ _ _ _ _ _ hb3]
  try simp [hz]
  rw [← hQ]
  refine ⟨rfl, b2, hb2, ?_⟩
  match z, hz with
  | [z1, z2], _ => rfl
 ·refine ⟨Evo.refl w st, hg, ?_, rfl⟩
  refine ⟨_, _, rfl, .inr ⟨rfl, by simp [RX, Value.cells]⟩, _, _, rfl, zq1a _ _, _, _, rfl, zq1a _ _, _, _, rfl, zq1a _ _, _, _, rfl, zq1a _ _, _, _, rfl, zq1a _ _, _, _, rfl, zq1a _ _, _, _, rfl, zq1a _ _, _, _, rfl, .inr ⟨rfl, by simp [RX, Value.cells]⟩, _, _, rfl, .inr ⟨rfl, ?_⟩, _, _, rfl, zq1a _ _, rfl⟩
  try simp [RX, RCs, Value.cells]
 ·intro e a w' hq
  cases e with
  | normal =>
    obtain ⟨env', st', ⟨_, b2, hb2, rfl⟩, _, hs⟩ := hq
    have hsub : Sub (upd st b (.cells [.int .i64 c, .int .i64 p])) (upd (upd st b2 (.cells [.int .i64 c, .int .i64 p])) b (.cells [.int .i64 c, .int .i64 p])) := Sub.upd ((Sub.refl st).put hb2) _ _
    refine ⟨hs.defers, _, rfl, .tuple #[], ?_, rfl, rfl, hs.evo.trans (Evo.sub hsub), hs.good.sub hsub⟩
    try simp [results, reCaught1]
  | panic ch => obtain ⟨_, _, _, _, ⟨h, _⟩, _⟩ := hq; cases h
  | outgrown => exact hq.elim
  | _ => obtain ⟨_, _, ⟨h, _⟩, _⟩ := hq; cases h
theorem rvs_ros {C : Nat → Nat → Value → Prop} : ∀ {ps : List PV} {vs : List Value}, RVs C ps vs → ROs C ps vs
 | [], _, h => h
 | _ :: _, _, ⟨v, vs', e, h1, h2⟩ => ⟨v, vs', e, h1, rvs_ros h2⟩
theorem zql1 {P : Program} {f : FuncId} {args : Array Value} {u : FrameMode} {w : World} {R R' : Ending → FrameMode → World → Prop} (h : CallsD P f args u w R) (hr : ∀ e u' w', R e u' w' → R' e u' w') : CallsD P f args u w R' := fun c cs hc =>
 let ⟨e, u', w', fr, h1, h2⟩ := h c cs hc
 ⟨e, u', w', fr, hr _ _ _ h1, h2⟩
def Caught (h : TypeId) (b : Nat) (Q : Int → Int → St → Prop) : Res → St → Prop := fun r s => ∃ s0, s0 b = none ∧ s = upd s0 b (.cells [.int .i64 0, .int .i64 0]) ∧ ((r = .ret (.tup []) ∧ Q 0 0 s0) ∨ ∃ c p, r = .pan (halt h c p) ∧ Q c p s0)
theorem zq3q (g : FuncId) (caps : List PV) (st : St) (Q : Int → Int → St → Prop) (hc : ∀ b, st b = none → zq5 prog g caps (upd st b (.cells [.int .i64 0, .int .i64 0])) (Caught ty_impl_halt b Q)) :
  zq5 prog n_impl_caught [.fn (.func g) [] caps] st (fun r s => ∃ c p, r = .ret (.agg [.int .i64 c, .int .i64 p]) ∧ Q c p s) := by
 refine ⟨⟨Go.Proofs.Tryz.f25, fnCaught, by kernel_rfl, by kernel_rfl⟩, fun w vals hg hv => ?_⟩
 obtain ⟨v0, vs, rfl, h0, rfl⟩ := hv
 refine calls_of_wp_defers fnCaught rfl ?_
 refine wp_seq ?_
 refine wp_mono (zq76 tyOK mixed (ann := []) (d0 := []) (w0 := w) (st0 := st) _ [.fn (.func g) [] caps, .junk, .junk, .junk, .junk, .junk, .junk] st
  (fun e env s => e = .normal ∧ ∃ b, st b = none ∧ env = [.fn (.func g) [] caps, .junk, .ptr b 0, .junk, .junk, .junk, .junk] ∧ s = upd st b (.cells [.int .i64 0, .int .i64 0])) _ w (by kernel_rfl) ?_ ?_) ?_
 ·generalize hQ : (fun e env s => e = HExit.normal ∧ ∃ b, st b = none ∧ env = [PV.fn (.func g) [] caps, .junk, .ptr b 0, .junk, .junk, .junk, .junk] ∧ s = upd st b (.cells [.int .i64 0, .int .i64 0])) = Q
  refine Eq.mp (α := zq8 st [.int .i64 0, .int .i64 0] fun v2 st => Q .normal [.fn (.func g) [] caps, .junk, v2, .junk, .junk, .junk, .junk] st) (by kernel_rfl) ?_
  intro b hb
  rw [← hQ]
  exact ⟨rfl, b, hb, rfl, rfl⟩
 ·refine ⟨Evo.refl w st, hg, ?_, rfl⟩
  exact ⟨_, _, rfl, h0, _, _, rfl, zq1a _ _, _, _, rfl, zq1a _ _, _, _, rfl, zq1a _ _, _, _, rfl, zq1a _ _, _, _, rfl, zq1a _ _, _, _, rfl, zq1a _ _, rfl⟩
 intro e a1 w1 hq
 cases e with
 | normal =>
   obtain ⟨env1, st1, ⟨_, b, hb, rfl, rfl⟩, _, hs1⟩ := hq
   obtain ⟨hev1, hg1, hsl, hd1⟩ := hs1
   obtain ⟨tmps1, defers1⟩ := a1
   simp only at hd1 hsl
   subst hd1
   obtain ⟨u0, l0, e0, r0, u1, l1, rfl, _, u2, l2, rfl, r2, u3, l3, rfl, _, u4, l4, rfl, _, u5, l5, rfl, _, u6, l6, rfl, _, rfl⟩ := hsl
   have hu2 := RO_ptr r2
   subst hu2
   obtain rfl : tmps1 = #[u0, u1, .pointer (some ⟨b, 0, none⟩), u3, u4, u5, u6] := by cases tmps1; simp_all
   show Code.wp prog _ _ _ _
   refine wp_seq (wp_region ?_)
   try simp [wpOps, Oper.wp, Oper.upon, go_sem, Exit.then]
   refine .inl (.inl ?_)
   obtain ⟨vf, vc, rfl, rf, rc⟩ := RO_fn r0
   obtain rfl : vf = [] := by simpa [RVs] using rf
   refine wp_seq (wp_region ?_)
   try simp [wpOps, Oper.wp, Oper.upon, go_sem, Exit.then]
   have hent := (hc b hb).1
   rw [zqm7 hent]
   refine .inl (.inl ?_)
   refine ((hc b hb).2 w1 vc hg1 ?_).mono ?_
   ·exact rvs_ros rc
   rintro e w2 ⟨r, s, hev2, hg2, ⟨s0, hs0, rfl, hq⟩, hm⟩
   cases e with
   | returned v =>
     rcases hq with ⟨rfl, hq⟩ | ⟨c, p, rfl, _⟩
     ·refine wp_mono (zq76 tyOK mixed (ann := []) (d0 := [{ target := .fn (.func n_impl_caught_1) #[.pointer (some ⟨b, 0, none⟩)], args := #[] }]) (w0 := w) (st0 := st) _ [.junk, .junk, .ptr b 0, .junk, .junk, .junk, .junk] (upd s0 b (.cells [.int .i64 0, .int .i64 0]))
       (fun e env s => e = .ret ∧ s = upd s0 b (.cells [.int .i64 0, .int .i64 0]) ∧ env = [.junk, .junk, .ptr b 0, .junk, .junk, .junk, .agg [.int .i64 0, .int .i64 0]]) _ w2 (by kernel_rfl) ?_ ?_) ?_
      ·generalize hQ : (fun e env s => e = HExit.ret ∧ s = upd s0 b (.cells [.int .i64 0, .int .i64 0]) ∧ env = [PV.junk, .junk, .ptr b 0, .junk, .junk, .junk, .agg [.int .i64 0, .int .i64 0]]) = Q2
       refine Eq.mp (α := zq4 (upd s0 b (.cells [.int .i64 0, .int .i64 0])) 2 (.ptr b 0) (.agg [.int .i64 0, .int .i64 0]) fun st => Q2 .ret [.junk, .junk, .ptr b 0, .junk, .junk, .junk, .agg [.int .i64 0, .int .i64 0]] st) (by kernel_rfl) ?_
       rw [zqh _ _ _ _ _ _ _ (zq2 _ _ _)]
       try simp
       rw [← hQ]
       exact ⟨rfl, rfl, rfl⟩
      ·refine ⟨hev1.trans hev2, hg2, ?_, rfl⟩
       exact ⟨_, _, rfl, zq1a _ _, _, _, rfl, zq1a _ _, _, _, rfl, .inr ⟨rfl, by simp [RX, Value.cells]⟩, _, _, rfl, zq1a _ _, _, _, rfl, zq1a _ _, _, _, rfl, zq1a _ _, _, _, rfl, zq1a _ _, rfl⟩
      intro e a3 w3 hq3
      cases e with
      | ret =>
        obtain ⟨env', st', ⟨_, rfl, rfl⟩, _, hs3⟩ := hq3
        show Leaves prog _ a3.tmps _ a3.defers .returning w3
        rw [show a3.defers = _ from hs3.defers]
        refine leaves_cons (by simp) ?_ (zql1 (catch_idle ⟨b, 0, none⟩ w3) ?_)
        ·simp [invoke, go_sem]
        ·rintro e u' w' ⟨rfl, rfl, rfl⟩
         refine zqm6 tyOK (fn := Go.Proofs.Tryz.f25) hs3.evo hs3.good hs3.slots ?_
         refine Eq.mp (α := qb (zq0 (upd s0 b (.cells [.int .i64 0, .int .i64 0])) true 2 (.ptr b 0)) fun p => retR (fun r s => ∃ c p, r = Res.ret (.agg [.int .i64 c, .int .i64 p]) ∧ Q c p s) p (upd s0 b (.cells [.int .i64 0, .int .i64 0]))) (by kernel_rfl) ?_
         try simp [zq6 (zq2 _ _ _)]
         exact zq1h ((Sub.refl _).put hs0) ⟨0, 0, rfl, hq⟩
      | panic ch => obtain ⟨_, _, _, _, ⟨h, _⟩, _⟩ := hq3; cases h
      | outgrown => exact hq3.elim
      | _ => obtain ⟨_, _, ⟨h, _⟩, _⟩ := hq3; cases h
     ·exact hm.elim
   | panicked ch =>
     rcases hq with ⟨rfl, _⟩ | ⟨c, p, rfl, hq⟩
     ·exact hm.elim
     ·obtain ⟨v, rfl, hro⟩ := hm
      obtain ⟨u, rfl, hu⟩ := RO_iface hro
      obtain ⟨vs, rfl, hvs⟩ := RO_agg (.inr hu)
      obtain rfl : vs = #[.int .i64 c, .int .i64 p] := by
       cases vs
       simpa [RCs, RX] using hvs
      refine leaves_cons (by simp) ?_ (zql1 (catch_halt b c p w2 _ _ (zq2 s0 b (.cells [.int .i64 0, .int .i64 0])) rfl hg2) ?_)
      ·simp [invoke, go_sem]
      ·rintro e u' w' ⟨rfl, rfl, hev3, hg3⟩
       refine zqm6 tyOK (fn := Go.Proofs.Tryz.f25) (env := [.junk, .junk, .ptr b 0, .junk, .junk, .junk, .junk]) ((hev1.trans hev2).trans hev3) hg3 ?_ ?_
       ·exact ⟨_, _, rfl, zq1a _ _, _, _, rfl, zq1a _ _, _, _, rfl, .inr ⟨rfl, by simp [RX, Value.cells]⟩, _, _, rfl, zq1a _ _, _, _, rfl, zq1a _ _, _, _, rfl, zq1a _ _, _, _, rfl, zq1a _ _, rfl⟩
       ·refine Eq.mp (α := qb (zq0 (upd (upd s0 b (.cells [.int .i64 0, .int .i64 0])) b (.cells [.int .i64 c, .int .i64 p])) true 2 (.ptr b 0)) fun q => retR (fun r s => ∃ c p, r = Res.ret (.agg [.int .i64 c, .int .i64 p]) ∧ Q c p s) q (upd (upd s0 b (.cells [.int .i64 0, .int .i64 0])) b (.cells [.int .i64 c, .int .i64 p]))) (by kernel_rfl) ?_
        try simp [zq6 (zq2 _ _ _)]
        exact zq1h ((Sub.refl _).put hs0) ⟨c, p, rfl, hq⟩
   | outgrown => exact hm.elim
 | panic ch => obtain ⟨_, _, _, _, ⟨h, _⟩, _⟩ := hq; cases h
 | outgrown => exact hq.elim
 | _ => obtain ⟨_, _, ⟨h, _⟩, _⟩ := hq; cases h
end Go.H.Tryz
set_option linter.unusedVariables false
set_option linter.unusedSimpArgs false
namespace Go.H.Tryz
open Go Go.H

theorem zq3i (t : Tr) (i : Int) {p : PV} {st : St} (hp : PT st (tree t).cells p) : zq5 prog n_impl_Tree_under [p, .int .i64 i] st (Just (.int .i64 (t.under i)) st) := by
 have hb : zq5 prog n_impl_Tree_binds [p, .int .i64 i] st (Just (.bool (decide (t.under i = 1))) st) := by
  apply zqgo
  unfold zq8i
  obtain ⟨q0, g0, g0'⟩ := hp.at_ 0 (by simp)
  try simp [hp.nil, g0, g0']
  refine zql (fun h => Just.bool (by simp [Tr.under, h])) (fun h => ?_)
  try simp [hp.nil, g0, g0']
  refine zql (fun h2 => ?_) (fun h2 => Just.bool (by simp [Tr.under, h, h2]))
  exact Just.bool (by simp [Tr.under, h2])
 apply zqgn
 unfold zq8h
 refine zq1 hb ?_
 try simp
 refine zql (fun h => Just.int h.symm) (fun h => Just.int ?_)
 unfold Tr.under at h ⊢
 split <;> simp_all
theorem h_impl_same (a b : Tr) (st : St) : zq5 prog n_impl_same [tree a, tree b] st (Just (.bool (decide (a = b))) st) := by
 induction a using Tr.ind generalizing b st with
 | _ a ih =>
 refine zq5.wf e_impl_same fun hw => ?_
 have hl := (tree_wf hw.1).1
 apply c_impl_same
 unfold zql8
 refine zq9 (zqf _) ?_
 refine zq9 (zqf _) ?_
 generalize hv : decide (a = b) = v
 have he := Tr.ext_iff a b
 try simp
 refine zql (fun h1 => ?_) (fun h1 => Just.bool (by rw [← hv, decide_eq_false (by rw [he]; simp [h1])]))
 refine zql (fun h2 => ?_) (fun h2 => Just.bool (by rw [← hv, decide_eq_false (by rw [he]; simp [h2])]))
 refine zql (fun h3 => ?_) (fun h3 => Just.bool (by rw [← hv, decide_eq_false (by rw [he]; simp [h3])]))
 refine zql (fun h4 => ?_) (fun h4 => Just.bool (by rw [← hv, decide_eq_false (by rw [he]; intro e; rw [e.2.2.2] at h4; exact h4 rfl)]))
 have hl4 : a.kids.length = b.kids.length := by omega
 refine zqz (β := Unit) a.kids (fun _ i => [.int .i64 (i : Int)]) (fun _ => st) (fun _ i rest => decide (rest = b.kids.drop i) = v) ?_ ?_ () (by rw [← hv, decide_eq_decide, he]; simp [h1, h2, h3])
 ·intro i x rest _ hi hx hq k
  obtain ⟨y, hy⟩ : ∃ y, b.kids[i]? = some y := ⟨b.kids[i]'(by omega), List.getElem?_eq_getElem _⟩
  rw [zqd8 hy] at hq
  try simp [hi, zq4r _ hx, zq4r _ hy]
  refine zq1 (ih x (List.mem_of_getElem? hx) y _) ?_
  try simp
  refine zql (fun h => ?_) (fun h => Just.bool (by rw [← hq, decide_eq_false (by simp [h])]))
  rw [W_idx hi hl]
  exact k () (by rw [← hq, h, decide_eq_decide]; simp)
 ·intro _ hq
  try simp
  exact Just.bool (by rw [← hq, hl4, List.drop_length]; rfl)
theorem h_impl_lam (t : Tr) (st : St) : zq5 prog n_impl_lam [tree t] st (Just (tree (Tr.lam t)) st) := by
 apply c_impl_lam
 unfold b_impl_lam
 refine zq9 (zqf _) ?_
 intro b hb
 try simp [zqe, fillL, zq11, zq6]
 exact Just.tree rfl (.inl rfl) rfl rfl rfl (Sub.fresh (Sub.refl _) hb)
theorem zqix (n : Int) (e : Nat) (f : Bool) (ks : List Tr) (he : e = 4 ∨ ks = []) (st : St) : zq5 prog n_impl_variable [.int .i64 n, .sl e f (ks.map tree)] st (Just (tree (Tr.var n ks)) st) := by
 apply zqji
 unfold zqat
 intro b hb
 try simp [zqe, fillL, zq11, zq6]
 exact Just.tree rfl (by rcases he with h | h; exact .inl h; exact .inr (by simp [h])) rfl rfl rfl (Sub.fresh (Sub.refl _) hb)
theorem zq8y (n : Int) (st : St) : zq5 prog n_impl_variable [.int .i64 n, .sl 0 true []] st (Just (tree (Tr.var n [])) st) := zqix n 0 true [] (.inr rfl) st
theorem h_impl_turned (F : Int → Int → Int) (g : FuncId) (us vs : List PV)
  (hg : ∀ (n d : Int) (s : List UInt8) (q : PV) (st : St), q.cellOK = true → zq5 prog g (us ++ [.agg [.int .i64 5, .int .i64 n, .str s, q], .int .i64 d] ++ vs) st (Just (.agg [.int .i64 5, .int .i64 (F n d), .str s, q]) st))
  (t : Tr) (d : Int) (hsz : t.size ≤ 1000000000000) (st : St) : zq5 prog n_impl_turned [tree t, .int .i64 d, .fn (.func g) us vs] st (zqg9 (zq5a F t d) st) := by
 induction t using Tr.ind generalizing d st with
 | _ t ih =>
 have hl := t.kids_len
 apply c_impl_turned
 unfold zqfs
 refine zq2a (zqf _) fun b3 hb3 => ?_
 intro b6 hb6
 simp only [upd_none] at hb6
 generalize hv : zq5a F t d = v
 rw [turnedT_eq] at hv
 try simp [zq6, zq11, hb6]
 generalize hst1 : upd (upd st b3 (HObj.cells (tree t).cells)) b6 (HObj.cells [PV.int IntKind.i64 0, PV.int IntKind.i64 0, PV.str [], PV.sl 0 true []]) = st1
 have g3 : st1 b3 = some (.cells (tree t).cells) := by subst hst1; simp [zq11, hb6]
 have g6 : st1 b6 = some (HObj.cells [PV.int IntKind.i64 0, PV.int IntKind.i64 0, PV.str [], PV.sl 0 true []]) := by subst hst1; simp [zq11]
 have gs : Sub st st1 := by subst hst1; exact (Sub.refl _).fresh hb3 |>.fresh hb6.2.2
 have n36 : b3 ≠ b6 := fun e => hb6.1 e.symm
 clear hst1
 refine zq52 fun J hJ => ?_
 refine zqz (β := PV × St × St) t.kids (fun z i => [z.1, .int .i64 (i : Int)]) (fun z => z.2.1) (fun z i rest => Grow z.2.2 4 (((t.kids.mapIdx fun i x => zq5a F x (W (d + t.under i))).take i).map tree) z.1 z.2.1 ∧ z.2.2 b3 = some (.cells (tree t).cells) ∧ z.2.2 b6 = some (HObj.cells [PV.int IntKind.i64 0, PV.int IntKind.i64 0, PV.str [], PV.sl 0 true []]) ∧ Sub st z.2.2) ?_ ?_ (_, st1, st1) ⟨Grow.nil _ _ _, g3, g6, gs⟩
 ·rintro i x rest ⟨p, s, sb⟩ hi hx ⟨q0, q3, q6, qs⟩ k
  simp only at q0 q3 q6 qs
  try simp [hi, zq4r _ hx]
  intro c hc
  have hc2 := q0.sub.isNone hc
  try simp [zq6, zq11]
  have e3 := q0.sub.get q3
  have n3c := ne_of e3 hc
  refine zq1 (zq3i t i (PT.ptr (by simp [zq11, n3c, e3]))) ?_
  try simp [zq6, zq11]
  refine zq1 (zqg9.just (ih x (List.mem_of_getElem? hx) _ (by have := Tr.kid_size (List.mem_of_getElem? hx); omega) _)) ?_
  try simp
  have q0' := q0.beside (c := c) (.cells (tree x).cells) hc
  refine q0'.append (zq2n _ _ _ _) (by simp; omega) fun p' st' hg' => ?_
  rw [W_idx hi (by unfold maxLen; omega)]
  refine k (p', st', upd sb c (.cells (tree x).cells)) ⟨?_, ?_, ?_, qs.put (qs.isNone hc2)⟩
  ·simp only
   rw [mapIdx_snoc _ _ _ hx]
   simpa using hg'
  ·simp [zq11, n3c, q3]
  ·simp [zq11, ne_of q6 hc2, q6]
 ·rintro ⟨p, s, sb⟩ ⟨q0, q3, q6, qs⟩
  simp only at q0 q3 q6 qs
  try simp
  refine hJ _ _ ?_
  rw [List.take_of_length_le (by simp)] at q0
  have e3 := q0.sub.get q3
  have e6 := q0.sub.get q6
  try simp
  rw [zqh _ _ _ _ _ _ _ e3]
  have hqc := q0.cellOK
  have hqj : p.cells = [p] ∧ p.ncells = 1 ∧ p.isJunk = false := by
   rcases q0 with ⟨_, ⟨e, rfl⟩, _⟩ | ⟨b, cap, rfl, _⟩ <;> exact ⟨rfl, rfl, rfl⟩
  try simp [hqj, hqc, zq6, zq11]
  have q1 := q0.store (.cells [.int .i64 t.kind, .int .i64 t.n, .str t.name, p]) q3
  have e6' : upd s b3 (.cells [.int .i64 t.kind, .int .i64 t.n, .str t.name, p]) b6 = some (HObj.cells [PV.int IntKind.i64 0, PV.int IntKind.i64 0, PV.str [], PV.sl 0 true []]) := by simp [zq11, n36.symm, e6]
  have fin : ∀ nn : Int, v = .mk t.kind nn t.name (t.kids.mapIdx fun i x => zq5a F x (W (d + t.under i))) → ∀ cs, retR (zqg9 v st) (.agg [.int .i64 t.kind, .int .i64 nn, .str t.name, p]) (upd (upd s b3 (.cells [.int .i64 t.kind, .int .i64 t.n, .str t.name, p])) b6 cs) := fun nn hnn cs => by
   subst hnn
   have q2 := q1.store (c := b6) cs (o := HObj.cells [PV.int IntKind.i64 0, PV.int IntKind.i64 0, PV.str [], PV.sl 0 true []]) (by simp [zq11, n36.symm, q6])
   have hsub : Sub st (upd (upd sb b3 (.cells [.int .i64 t.kind, .int .i64 t.n, .str t.name, p])) b6 cs) := (qs.put hb3).put hb6.2.2
   -- the row goes out, the rest stays behind
   rcases q2 with ⟨h1, ⟨e, rfl⟩, h3⟩ | ⟨b, cap, h1, h2, h3, h4⟩
   ·exact zq1h (by rw [h3]; exact hsub) ⟨_, rfl, .inl ⟨h1, ⟨e, rfl⟩, rfl⟩⟩
   ·refine zq1h (st' := upd st b (.vec 4 ((t.kids.mapIdx fun i x => zq5a F x (W (d + t.under i))).map tree) cap)) ?_ ⟨p, rfl, .inr ⟨b, cap, h1, h2, hsub.isNone h3, rfl⟩⟩
    rw [h4]
    exact hsub.upd b _
  refine zql (fun h5 => ?_) (fun h5 => ?_)
  ·rw [if_pos h5] at hv
   rw [h5] at fin ⊢
   refine zq1 (by simpa using hg t.n d t.name p _ hqc) ?_
   rw [h5] at e6'
   rw [zqh _ _ _ _ _ _ _ e6']
   try simp [zq6, zq11, hqc]
   exact fin _ (by rw [← hv, h5]) _
  ·rw [if_neg h5] at hv
   rw [zqh _ _ _ _ _ _ _ e6']
   try simp [zq6, zq11, hqc]
   exact fin _ hv.symm _
theorem h_impl_lift_1 (frm b n d : Int) (s : List UInt8) (q : PV) (st : St) (hq : q.cellOK = true) :
  zq5 prog n_impl_lift_1 [.agg [.int .i64 5, .int .i64 n, .str s, q], .int .i64 d, .ref [.int .i64 frm], .ref [.int .i64 b]] st (Just (.agg [.int .i64 5, .int .i64 (liftF frm b n d), .str s, q]) st) := by
 apply c_impl_lift_1
 unfold zqfx
 refine zq2a rfl fun b4 hb4 => ?_
 intro b6 hb6
 simp only [upd_none] at hb6
 generalize hv : liftF frm b n d = v
 unfold liftF at hv
 try simp [zq6, zq11, hb6]
 refine zql (fun h => ?_) (fun h => ?_)
 ·rw [if_pos h] at hv
  try simp [zq6, zq11, hb6, hq]
  refine Just.same (by rw [← hv]) ?_
  exact ((Sub.refl _).fresh hb4 |>.fresh hb6.2.2 |>.fresh hb4 |>.fresh hb6.2.2)
 ·rw [if_neg h] at hv
  try simp [zq6, zq11, hb6, hq]
  refine Just.same (by rw [← hv]) ?_
  exact ((Sub.refl _).fresh hb4 |>.fresh hb6.2.2)
theorem zqj8 (t : Tr) (frm b : Int) (hf : W frm = frm) (hsz : t.size ≤ 1000000000000) (st : St) : zq5 prog n_impl_lift [tree t, .int .i64 frm, .int .i64 b] st (zqg9 (t.lift frm b) st) := by
 apply c_impl_lift
 unfold zqla
 refine zq9 (zqf _) ?_
 refine zq9 rfl ?_
 refine zq9 rfl ?_
 intro b6 hb6
 have hv : zq5a (liftF frm b) t 0 = t.lift frm b := by rw [turned_lift, Int.add_zero, hf]
 rw [← hv]
 try simp
 refine callK_own (h_impl_turned (liftF frm b) n_impl_lift_1 [] [.ref [.int .i64 frm], .ref [.int .i64 b]] (fun n d s q st hq => by simpa using h_impl_lift_1 frm b n d s q st hq) t 0 hsz _) fun q s' hg => ?_
 have e6 : s' b6 = some (HObj.cells [PV.int IntKind.i64 0, PV.int IntKind.i64 0, PV.str [], PV.sl 0 true []]) := hg.sub.get (zq2 _ _ _)
 have hqc := hg.cellOK
 rw [zqh _ _ _ _ _ _ _ e6]
 try simp [zq6, zq11, hqc]
 have q2 := hg.store (.cells [.int .i64 (zq5a (liftF frm b) t 0).kind, .int .i64 (zq5a (liftF frm b) t 0).n, .str (zq5a (liftF frm b) t 0).name, q]) (zq2 _ _ _)
 rcases q2 with ⟨h1, ⟨e, rfl⟩, h3⟩ | ⟨b, cap, h1, h2, h3, h4⟩
 ·exact zq1h (by rw [h3]; simpa using (Sub.refl st).fresh hb6) ⟨_, rfl, .inl ⟨h1, ⟨e, rfl⟩, rfl⟩⟩
 ·refine zq1h (st' := upd st b _) ?_ ⟨q, rfl, .inr ⟨b, cap, h1, h2, (Sub.isNone (by simpa using (Sub.refl st).fresh hb6) h3), rfl⟩⟩
  rw [h4]
  exact Sub.upd (by simpa using (Sub.refl st).fresh hb6) b _
theorem zq9x (t : Tr) (frm b : Int) (hf : W frm = frm) (hsz : t.size ≤ 1000000000000) (st : St) : zq5 prog n_impl_lift [tree t, .int .i64 frm, .int .i64 b] st (Just (tree (t.lift frm b)) st) := zqg9.just (zqj8 t frm b hf hsz st)
end Go.H.Tryz
set_option linter.unusedVariables false
set_option linter.unusedSimpArgs false
namespace Go.H.Tryz
open Go Go.H

theorem h_slices_Max (x : Int) (r : List Int) (hn : r.length ≤ 1000000) (st : St) : zq5 prog n_slices_Max_int_int [.sl 1 true (.int .i64 x :: r.map (.int .i64))] st (Just (.int .i64 (most x r)) st) := by
 apply zqbt
 unfold zq5q
 generalize hv : most x r = v
 try simp
 refine zql (fun h => by omega) (fun h => ?_)
 try simp [q_ia]
 refine zq6o (σ := Int × Nat) (fun s => r.length + 1 - s.2) (fun s => [.int .i64 s.1, .int .i64 (s.2 : Int)]) (fun _ => st) (fun s => 1 ≤ s.2 ∧ s.2 ≤ r.length + 1 ∧ most s.1 (r.drop (s.2 - 1)) = v) ?_ (x, 1) ⟨by omega, by simp, by simpa using hv⟩
 rintro ⟨c, i⟩ ⟨h1, h2, h3⟩ ih
 simp only at h1 h2 h3 ih
 obtain ⟨i, rfl⟩ : ∃ j, i = j + 1 := ⟨i - 1, by omega⟩
 try simp
 refine zql (fun hlt => ?_) (fun hlt => Just.int (by rw [← h3, List.drop_of_length_le (by omega)]; rfl))
 have e1 : r[i]? = some r[i] := List.getElem?_eq_getElem hlt
 have e2 : (0 : Int) ≤ (i : Int) + 1 := by omega
 simp only [Nat.add_sub_cancel, List.drop_eq_getElem_cons hlt, most] at h3
 rw [if_pos e2, e1]
 try simp [q_max, PV.cells]
 rw [show IntKind.i64.wrap ((i : Int) + 1 + 1) = ((i + 1 + 1 : Nat) : Int) from by rw [zqs (by omega) (by omega)]; omega]
 exact ih (if r[i] > c then r[i] else c, i + 1 + 1) (by simp; omega) ⟨by simp, by simp; omega, by simpa using h3⟩
theorem zq92 (x : Int) (r : List Int) (hn : r.length ≤ 1000000) (st : St) : zq5 prog n_impl_longLists [.sl 1 true (.int .i64 x :: r.map (.int .i64))] st (Just (.bool ((x :: r).any fun y => decide (y > 4096))) st) := by
 apply zqia
 unfold zq9i
 generalize hv : ((x :: r).any fun y => decide (y > 4096)) = v
 refine zq1 (h_slices_Max x r hn _) ?_
 try simp
 refine Just.bool ?_
 rw [← hv, Bool.eq_iff_iff, decide_eq_true_eq]
 exact most_any r x 4096
theorem zq41 (ts : List Tr) (f : Bool) (st : St) : zq5 prog n_slices_Clip_impl_Tree_impl_Tree [.sl 4 f (ts.map tree)] st (Just (.sl 4 true (ts.map tree)) st) := by
 apply zq43
 unfold zq25
 have := zqk7 (e := 4) (f := f) (xs := ts.map tree) .i64 .i64
 simp at this
 try simp [this]
 exact Just.ret (Sub.refl _)
theorem zqw (c p : Int) (hc : c ≠ 0) (st : St) : zq5 prog n_impl_stop [.int .i64 c, .int .i64 p] st (Stops ty_impl_halt c p st) := by
 apply c_impl_stop
 unfold zql6
 try simp [zqhb]
 exact Stops.pan hc rfl rfl (Sub.refl _)
end Go.H.Tryz
set_option linter.unusedVariables false
set_option linter.unusedSimpArgs false
namespace Go.H.Tryz
open Go Go.H

end Go.H.Tryz
set_option linter.unusedVariables false
set_option linter.unusedSimpArgs false
namespace Go.H.Tryz
open Go Go.H

theorem zqhv (p : Tr → Int → Bool) (g : FuncId) (us vs : List PV) (t : Tr) (d : Int) (hsz : t.size ≤ 1000000000000) (I : Tr → Prop) (hI : ∀ t, I t → ∀ x ∈ t.kids, I x) (hit : I t) (st : St)
  (hg : ∀ (t : Tr) (d : Int), I t → zq5 prog g (us ++ [.ref (tree t).cells, .int .i64 d] ++ vs) st (Just (.bool (p t d)) st)) :
  zq5 prog n_impl_Tree_each [.ref (tree t).cells, .int .i64 d, .fn (.func g) us vs] st (Just (.bool (eachT p t d)) st) := by
 induction t using Tr.ind generalizing d with
 | _ t ih =>
 have hl := t.kids_len
 apply zq9b
 unfold zq5x
 generalize hv : eachT p t d = v
 rw [eachT_eq] at hv
 try simp
 refine zq1 (by simpa using hg t d hit) ?_
 try simp
 refine zq50 (fun h => Just.bool (by rw [← hv, h]; rfl)) (fun h => ?_)
 rw [h, Bool.false_or] at hv
 refine zqz (β := Unit) t.kids (fun _ i => [.int .i64 (i : Int)]) (fun _ => st) (fun _ i rest => ((t.kids.mapIdx fun i x => eachT p x (W (d + t.under i))).drop i).any id = v) ?_ ?_ () hv
 ·intro i x rest _ hi hx hq k
  have hxm := List.mem_of_getElem? hx
  rw [drop_mapIdx _ _ _ hx, List.any_cons] at hq
  try simp [hi, zq4r _ hx]
  refine zq1 (zq3i t i (PT.ref _ _)) ?_
  try simp
  refine zq1 (ih x hxm _ (by have := Tr.kid_size hxm; omega) (hI t hit x hxm)) ?_
  try simp
  refine zq50 (fun h => Just.bool (by rw [← hq]; simp [h])) (fun h => ?_)
  rw [W_idx hi (by unfold maxLen; omega)]
  exact k () (by rw [← hq]; simp [h])
 ·intro _ hq
  try simp
  refine Just.bool ?_
  rw [← hq, List.drop_of_length_le (by simp)]
  rfl
end Go.H.Tryz
set_option linter.unusedVariables false
set_option linter.unusedSimpArgs false
namespace Go.H.Tryz
open Go Go.H

def Cnt (b : Nat) (c : Int) (v : Bool) (st : St) : Res → St → Prop := fun r s => s = upd st b (.cells [.int .i64 c]) ∧ r = .ret (.bool v)
theorem Cnt.mk {b : Nat} {c : Int} {v w : Bool} {st st1 : St} (e : w = v) (h : Sub (upd st b (.cells [.int .i64 c])) st1) : retR (Cnt b c v st) (.bool w) st1 := by subst e; exact zq1h h ⟨rfl, rfl⟩
theorem zqiy (t : Tr) (d c : Int) (hc : 0 ≤ c ∧ c ≤ 1000) (b : Nat) (st : St) (hb : st b = some (.cells [.int .i64 c])) :
  zq5 prog n_impl_tooBig_1 [.ref (tree t).cells, .int .i64 d, .ptr b 0] st (Cnt b (c + 1) (decide (150 < c + 1) || (decide (t.kind = 5) && decide (100 < t.n))) st) := by
 apply zqjj
 unfold zqau
 generalize hv : (decide (150 < c + 1) || (decide (t.kind = 5) && decide (100 < t.n))) = v
 have hw : IntKind.i64.wrap (c + 1) = c + 1 := zqs (by omega) (by omega)
 try simp [zq6 hb]
 rw [hw, zqh _ _ _ _ _ _ _ hb]
 try simp [zq6 (zq2 _ _ _)]
 refine zql (fun h => Cnt.mk (by rw [← hv, decide_eq_true h]; rfl) (Sub.refl _)) (fun h => ?_)
 rw [decide_eq_false h, Bool.false_or] at hv
 refine zql (fun h5 => Cnt.mk (by rw [← hv, decide_eq_true h5]; rfl) (Sub.refl _)) (fun h5 => Cnt.mk (by rw [← hv, decide_eq_false h5]; rfl) (Sub.refl _))
def Counts (b : Nat) (c : Int) (t : Tr) (st : St) : Res → St → Prop := fun r s => ∃ c', s = upd st b (.cells [.int .i64 c']) ∧ ((countOK c t ∧ c' = c + t.size ∧ r = .ret (.bool false)) ∨ (¬ countOK c t ∧ r = .ret (.bool true)))
theorem zqgd (t : Tr) (d c : Int) (hc : 0 ≤ c ∧ c ≤ 150) (hsz : t.size ≤ 1000000000) (b : Nat) (st : St) (hb : st b = some (.cells [.int .i64 c])) :
  zq5 prog n_impl_Tree_each [.ref (tree t).cells, .int .i64 d, .fn (.func n_impl_tooBig_1) [] [.ptr b 0]] st (Counts b c t st) := by
 induction t using Tr.ind generalizing d c st with
 | _ t ih =>
 have hl := t.kids_len
 apply zq9b
 unfold zq5x
 generalize hR : Counts b c t st = R
 try simp
 refine zq15 (zqiy t d c (by omega) b st hb) (fun p s h => ?_) (fun p s h => by cases h.2)
 obtain ⟨rfl, h⟩ := h
 cases h
 try simp
 have hpos := t.size_pos
 have yes : ∀ c', ¬ countOK c t → retR R (.bool true) (upd st b (.cells [.int .i64 c'])) := fun c' h => by
  rw [← hR]
  exact zq1h (Sub.refl _) ⟨c', rfl, .inr ⟨h, rfl⟩⟩
 refine zq50 (fun h => yes _ ?_) (fun h => ?_)
 ·simp only [Bool.or_eq_true, Bool.and_eq_true, decide_eq_true_eq] at h
  rintro ⟨h1, h2⟩
  rw [Tr.high_eq] at h2
  simp only [Bool.or_eq_false_iff, Bool.and_eq_false_iff, decide_eq_false_iff_not] at h2
  omega
 ·simp only [Bool.or_eq_false_iff, Bool.and_eq_false_iff, decide_eq_false_iff_not] at h
  refine zqz (β := Int) t.kids (fun _ i => [.int .i64 (i : Int)]) (fun c' => upd st b (.cells [.int .i64 c'])) (fun c' i rest => 0 ≤ c' ∧ c' ≤ 150 ∧ c' + Tr.sizes rest = c + t.size ∧ (t.kids.any Tr.high = rest.any Tr.high)) ?_ ?_ (c + 1) ⟨by omega, by omega, by rw [Tr.size_kids t]; omega, rfl⟩
  ·rintro i x rest c' hi hx ⟨h1, h2, h3, h4⟩ kk
   have hxm := List.mem_of_getElem? hx
   try simp [hi, zq4r _ hx]
   refine zq1 (zq3i t i (PT.ref _ _)) ?_
   try simp
   refine zq15 (ih x hxm _ c' ⟨h1, h2⟩ (by have := Tr.kid_size hxm; omega) _ (zq2 _ _ _)) (fun p s hp => ?_) (fun p s hp => ?_)
   ·obtain ⟨c2, rfl, hp⟩ := hp
    simp only [Tr.sizes, List.map_cons, List.sum_cons] at h3
    simp only [List.any_cons] at h4
    rcases hp with ⟨⟨g1, g2⟩, rfl, hp⟩ | ⟨g, hp⟩
    ·cases hp
     try simp
     rw [W_idx hi (by unfold maxLen; omega)]
     exact kk (c' + x.size) ⟨by omega, by omega, by simp only [Tr.sizes]; omega, by rw [h4, g2, Bool.false_or]⟩
    ·cases hp
     try simp
     refine yes _ ?_
     rintro ⟨k1, k2⟩
     rw [Tr.high_eq, h4] at k2
     simp only [Bool.or_eq_false_iff] at k2
     exact g ⟨by omega, k2.2.1⟩
   ·obtain ⟨_, _, ⟨_, _, hp⟩ | ⟨_, hp⟩⟩ := hp <;> cases hp
  ·rintro c' ⟨h1, h2, h3, h4⟩
   try simp
   rw [← hR]
   refine zq1h (Sub.refl _) ⟨c', rfl, .inl ⟨⟨?_, ?_⟩, ?_, rfl⟩⟩
   ·simp [Tr.sizes] at h3; omega
   ·rw [Tr.high_eq, h4]; simp
    intro h5
    rcases h.2 with g | g
    ·exact absurd h5 g
    ·omega
   ·simp [Tr.sizes] at h3; omega
theorem zq63 (t : Tr) (hsz : t.size ≤ 1000000000) (st : St) : zq5 prog n_impl_tooBig [tree t] st (Just (.bool t.big) st) := by
 apply c_impl_tooBig
 unfold zqft
 refine zq9 (zqf _) ?_
 intro b hb
 try simp
 refine zq15 (zqgd t 0 0 (by omega) hsz b _ (zq2 _ _ _)) (fun p s h => ?_) (fun p s h => ?_)
 ·obtain ⟨c', rfl, ⟨⟨h1, h2⟩, _, h⟩ | ⟨h1, h⟩⟩ := h
  ·cases h
   exact Just.bool (by unfold Tr.big Tr.small; rw [h2, decide_eq_true (by omega)]; rfl) (by simpa using (Sub.refl st).put hb)
  ·cases h
   refine Just.bool ?_ (by simpa using (Sub.refl st).put hb)
   unfold Tr.big Tr.small
   by_cases hs : t.size ≤ 150
   ·rw [decide_eq_true hs]
    cases hh : t.high with
    | true => rfl
    | false => exact absurd ⟨by omega, hh⟩ h1
   ·rw [decide_eq_false hs]; rfl
 ·obtain ⟨_, _, ⟨_, _, hp⟩ | ⟨_, hp⟩⟩ := h <;> cases hp
theorem zqfi (t : Tr) (hsz : t.size ≤ 1000000000) (st : St) : zq5 prog n_impl_formed [tree t] st (Heads ty_impl_halt (if t.big = true then .inl 11 else .inr t) st) := by
 apply c_impl_formed
 unfold zqg1
 generalize hv : (if t.big = true then (Sum.inl 11 : Int ⊕ Tr) else .inr t) = v
 refine zq9 (zqf _) ?_
 intro b2 hb2
 have hsub : ∀ o, Sub st (upd st b2 o) := fun o => (Sub.refl st).put hb2
 try simp
 refine zq1 (zq63 t hsz _) ?_
 try simp
 refine zq50 (fun h => ?_) (fun h => ?_)
 ·rw [if_pos h] at hv
  exact zqy (zqw 11 0 (by omega) _) (fun h => by omega) (fun _ => Heads.pan hv.symm (hsub _))
 ·rw [if_neg (by rw [h]; simp)] at hv
  try simp [zq6 (zq2 _ _ _)]
  exact Heads.ret hv.symm (hsub _)
theorem zeroTree : zqe [PV.int IntKind.i64 0, PV.int IntKind.i64 0, PV.str [], PV.sl 0 true []] [] = some (.agg [.int .i64 0, .int .i64 0, .str [], .sl 0 true []]) := rfl
end Go.H.Tryz
set_option linter.unusedVariables false
set_option linter.unusedSimpArgs false
namespace Go.H.Tryz
open Go Go.H

def PutsOK (mo : List PV) (b : Nat) (lo : Int) (sub : Tr → Tr → Tr → Int → (Int ⊕ Tr) × Int) : Prop := ∀ (x c g : Tr) (k : Int) (s : St), x.lamy = true → x.size ≤ 1000000 → c.isSimple = true → g.lamy = true → g.size ≤ 150 → lo < k → k ≤ 20000 → s b = some (cntR mo k) →
 zq5 prog n_impl_work_put [.ptr b 0, tree x, tree c, .int .i64 0, tree g] s (zq7w mo ty_impl_halt b (sub x c g k) s) ∧ FineT (sub x c g k) k
theorem zqed (mo : List PV) (b : Nat) (sub : Tr → Tr → Tr → Int → (Int ⊕ Tr) × Int) (f a : Tr) (args : List Tr) (k : Int) (hsub : PutsOK mo b k sub) (hk : 0 ≤ k ∧ k ≤ 20000) (ha : a.isSimple = true) (hf : f.lamy = true) (hfb : f.big = false) (hargs : ∀ x ∈ args, x.lamy = true ∧ x.size ≤ 1000000) (hl : args.length ≤ 1000000) (st : St) (hb : st b = some (cntR mo k)) :
  zq5 prog n_impl_work_apply [.ptr b 0, tree f, tree a, trees args] st (zq7w mo ty_impl_halt b (redT sub f a args k) st) := by
 apply zqgi
 unfold zq8c
 generalize hv : redT sub f a args k = v
 refine zq2a (zqf _) fun b5 hb5 => ?_
 have n5 : b5 ≠ b := fun e => by rw [e, hb] at hb5; cases hb5
 refine zq2a (zqf _) fun b6 hb6 => ?_
 have n65 : b6 ≠ b5 := fun e => by rw [e, zq2] at hb6; cases hb6
 rw [zq7 _ _ n65] at hb6
 have n6 : b6 ≠ b := fun e => by rw [e, hb] at hb6; cases hb6
 intro b8 hb8
 have n86 : b8 ≠ b6 := fun e => by rw [e, zq2] at hb8; cases hb8
 rw [zq7 _ _ n86] at hb8
 have n85 : b8 ≠ b5 := fun e => by rw [e, zq2] at hb8; cases hb8
 rw [zq7 _ _ n85] at hb8
 have n8 : b8 ≠ b := fun e => by rw [e, hb] at hb8; cases hb8
 try simp
 generalize hs0 : upd (upd (upd st b5 (.cells (tree f).cells)) b6 (.cells (tree a).cells)) b8 (.cells [.int .i64 0, .int .i64 0, .str [], .sl 0 true []]) = s0
 have e5 : s0 b5 = some (.cells (tree f).cells) := by rw [← hs0, zq7 _ _ n85.symm, zq7 _ _ n65.symm]; exact zq2 _ _ _
 have e6 : s0 b6 = some (.cells (tree a).cells) := by rw [← hs0, zq7 _ _ n86.symm]; exact zq2 _ _ _
 have e8 : s0 b8 = some (.cells [.int .i64 0, .int .i64 0, .str [], .sl 0 true []]) := by rw [← hs0]; exact zq2 _ _ _
 have eb : s0 b = some (cntR mo k) := by rw [← hs0, zq7 _ _ n8.symm, zq7 _ _ n6.symm, zq7 _ _ n5.symm]; exact hb
 have ar : zq16 b st s0 := by rw [← hs0]; exact (((zq16.refl b st).put hb5 _).put hb6 _).put hb8 _
 clear hs0
 refine zqz (β := Tr × Tr × Int × St) args (fun _ i => [.int .i64 (i : Int)]) (fun z => z.2.2.2)
  (fun z i rest => z.2.2.2 b5 = some (.cells (tree z.1).cells) ∧ z.2.2.2 b6 = some (.cells (tree z.2.1).cells) ∧ z.2.2.2 b8 = some (.cells [.int .i64 0, .int .i64 0, .str [], .sl 0 true []]) ∧ z.2.2.2 b = some (cntR mo z.2.2.1) ∧ zq16 b st z.2.2.2 ∧
    k ≤ z.2.2.1 ∧ z.2.2.1 ≤ 20000 ∧ z.2.1.isSimple = true ∧ z.1.lamy = true ∧ z.1.big = false ∧ redT sub z.1 z.2.1 rest z.2.2.1 = v) ?_ ?_ (f, a, k, s0) ⟨e5, e6, e8, eb, ar, by simp, hk.2, ha, hf, hfb, hv⟩
 ·rintro i x rest ⟨f, a, k1, s⟩ hi hx ⟨e5, e6, e8, eb, ar, k0, k2, ha, hf, hfb, hq⟩ kk
  simp only at e5 e6 e8 eb ar k0 k2 ha hf hfb hq
  rw [redT] at hq
  try simp [hi, zq4r _ hx]
  intro b10 hb10
  have m5 : b5 ≠ b10 := fun e => by rw [← e, e5] at hb10; cases hb10
  have m6 : b6 ≠ b10 := fun e => by rw [← e, e6] at hb10; cases hb10
  have m8 : b8 ≠ b10 := fun e => by rw [← e, e8] at hb10; cases hb10
  have mb : b ≠ b10 := fun e => by rw [← e, eb] at hb10; cases hb10
  try simp
  generalize hs1 : upd s b10 (.cells (tree x).cells) = s1
  have f5 : s1 b5 = some (.cells (tree f).cells) := by rw [← hs1, zq7 _ _ m5]; exact e5
  have f6 : s1 b6 = some (.cells (tree a).cells) := by rw [← hs1, zq7 _ _ m6]; exact e6
  have f8 : s1 b8 = some (.cells [.int .i64 0, .int .i64 0, .str [], .sl 0 true []]) := by rw [← hs1, zq7 _ _ m8]; exact e8
  have fb : s1 b = some (cntR mo k1) := by rw [← hs1, zq7 _ _ mb]; exact eb
  have f10 : s1 b10 = some (.cells (tree x).cells) := by rw [← hs1]; exact zq2 _ _ _
  have ar1 : zq16 b st s1 := by rw [← hs1]; exact ar.put (ar.isNone mb.symm hb10) _
  clear hs1
  refine zq52 fun J hJ => ?_
  have bad : ¬ (a.kind = 10 ∧ f.kind = 4) → J [.bool true] s1 := fun h => by
   rw [if_neg h] at hq
   refine hJ _ _ ?_
   exact zqy (zqw 12 0 (by omega) _) (fun h => by omega) (fun _ => zq7w.pan hq ar1 fb)
  have good : a.kind = 10 ∧ f.kind = 4 → J [.bool false] s1 := fun h => by
   rw [if_pos h] at hq
   obtain ⟨y, z, hyz, hy, hz⟩ := zqka ha h.1
   obtain ⟨g, hg, hgl⟩ := Tr.lamy_lam hf h.2
   have y0 : a.kids[0]? = some y := by rw [hyz]; rfl
   have y1 : a.kids[1]? = some z := by rw [hyz]; rfl
   have g0 : f.kids[0]? = some g := by rw [hg]; rfl
   rw [kid0 hyz, kid1 hyz, kid0 hg] at hq
   have hgs : g.size ≤ 150 := by
    have h1 : g.size < f.size := Tr.kid_size (by rw [hg]; simp)
    unfold Tr.big Tr.small at hfb
    simp only [Bool.or_eq_false_iff, Bool.not_eq_false', decide_eq_true_eq] at hfb
    omega
   refine hJ _ _ ?_
   try simp [zq1d, zq6 fb, cntR, zqfc]
   rw [zqs (by omega) (by omega), zqh _ _ _ _ _ _ _ fb]
   try simp [zq6 (zq2 _ _ _), cntR, zqfc]
   generalize hs2 : upd s1 b (.cells (.int .i64 (k1 + 1) :: mo)) = s2
   have h5 : s2 b5 = some (.cells (tree f).cells) := by rw [← hs2, zq7 _ _ n5]; exact f5
   have h6 : s2 b6 = some (.cells (tree a).cells) := by rw [← hs2, zq7 _ _ n6]; exact f6
   have h8 : s2 b8 = some (.cells [.int .i64 0, .int .i64 0, .str [], .sl 0 true []]) := by rw [← hs2, zq7 _ _ n8]; exact f8
   have h10 : s2 b10 = some (.cells (tree x).cells) := by rw [← hs2, zq7 _ _ mb.symm]; exact f10
   have hb' : s2 b = some (cntR mo (k1 + 1)) := by rw [← hs2]; exact zq2 _ _ _
   have ar2 : zq16 b st s2 := by rw [← hs2]; exact ar1.draw _
   clear hs2
   refine zq52 fun J2 hJ2 => ?_
   refine zql (fun hgt => ?_) (fun hgt => ?_)
   ·rw [if_pos (by omega)] at hq
    exact zqy (zqw 17 0 (by omega) _) (fun h => by omega) (fun _ => zq7w.pan hq ar2 hb')
   ·rw [if_neg (by omega)] at hq
    refine hJ2 _ _ ?_
    try simp [zq6 h5, zq6 h6, zq6 h10, zq6l _ y0, zq6l _ g0]
    obtain ⟨hc, hfine⟩ := hsub x y g (k1 + 1) s2 (hargs x (List.mem_of_getElem? hx)).1 (hargs x (List.mem_of_getElem? hx)).2 hy hgl hgs (by omega) (by omega) hb'
    refine zq89 hc (fun t k3 ht => ?_) (fun c k3 hc => ?_)
    ·rw [ht] at hq hfine
     simp only at hq
     obtain ⟨p1, p2, p3, p4⟩ := hfine
     obtain ⟨q1, q2, q3⟩ := p4 t rfl
     simp only at p1 q3
     have i5 : (upd s2 b (cntR mo k3)) b5 = some (.cells (tree f).cells) := by rw [zq7 _ _ n5]; exact h5
     rw [zqh _ _ _ _ _ _ _ i5]
     try simp
     generalize hs3 : upd (upd s2 b (cntR mo k3)) b5 (.cells (tree t).cells) = s3
     have j5 : s3 b5 = some (.cells (tree t).cells) := by rw [← hs3]; exact zq2 _ _ _
     have j6 : s3 b6 = some (.cells (tree a).cells) := by rw [← hs3, zq7 _ _ n65, zq7 _ _ n6]; exact h6
     have j8 : s3 b8 = some (.cells [.int .i64 0, .int .i64 0, .str [], .sl 0 true []]) := by rw [← hs3, zq7 _ _ n85, zq7 _ _ n8]; exact h8
     have jb : s3 b = some (cntR mo k3) := by rw [← hs3, zq7 _ _ n5.symm]; exact zq2 _ _ _
     have ar3 : zq16 b st s3 := by rw [← hs3]; exact (ar2.draw _).put hb5 _
     clear hs3
     try simp [zq6 j6, zqea _ y1]
     rw [zqh _ _ _ _ _ _ _ j6]
     try simp
     rw [W_idx hi (by unfold maxLen; omega)]
     have l5 : (upd s3 b6 (.cells (tree z).cells)) b5 = some (.cells (tree t).cells) := by rw [zq7 _ _ n65.symm]; exact j5
     have l6 : (upd s3 b6 (.cells (tree z).cells)) b6 = some (.cells (tree z).cells) := zq2 _ _ _
     have l8 : (upd s3 b6 (.cells (tree z).cells)) b8 = some (.cells [.int .i64 0, .int .i64 0, .str [], .sl 0 true []]) := by rw [zq7 _ _ n86]; exact j8
     have lb : (upd s3 b6 (.cells (tree z).cells)) b = some (cntR mo k3) := by rw [zq7 _ _ n6.symm]; exact jb
     exact kk (t, z, k3, upd s3 b6 (.cells (tree z).cells)) ⟨l5, l6, l8, lb, ar3.put hb6 _, (by simp only; omega), q3, hz, q1, q2, hq⟩
    ·rw [hc] at hq
     exact zq7w.pan hq (ar2.draw _) (zq2 _ _ _)
  try simp [zq6 f5, zq6 f6]
  refine zql (fun h10 => ?_) (fun h10 => bad fun h => h10 h.1)
  by_cases h4 : f.kind = 4
  ·simp [h4]
   exact good ⟨h10, h4⟩
  ·simp [h4]
   exact bad fun h => h4 h.2
 ·rintro ⟨f, a, k1, s⟩ ⟨e5, e6, e8, eb, ar, k0, k2, ha, hf, hfb, hq⟩
  simp only at e5 e6 e8 eb ar k0 k2 ha hf hfb hq
  rw [redT] at hq
  try simp [zq6 e5]
  rw [zqh _ _ _ _ _ _ _ e8]
  try simp [zq6 (zq2 _ _ _)]
  exact zq7w.ret hq (ar.put hb8 _) (by rw [zq7 _ _ n8.symm]; exact eb)
theorem zqhn (mo : List PV) (b : Nat) : ∀ (N : Nat) (m a t : Tr) (n k : Int) (st : St), m.lamy = true → m.size ≤ 1000000 → a.isSimple = true → t.lamy = true → t.size ≤ 1000000 → 0 ≤ k → k ≤ 20000 → (20001 - k) * 1000 + t.size ≤ N → st b = some (cntR mo k) →
  zq5 prog n_impl_work_put [.ptr b 0, tree m, tree a, .int .i64 n, tree t] st (zq7w mo ty_impl_halt b (subT N m a t n k) st) := by
 intro N
 induction N with
 | zero => intro m a t n k st _ _ _ _ _ h0 h1 hN _; have := t.size_pos; omega
 | succ N ih =>
   intro m a t n k st hm hms ha ht hts h0 h1 hN hb
   have hlen := t.kids_len
   apply zqjh
   unfold zqas
   generalize hv : subT (N + 1) m a t n k = v
   rw [subT_rest] at hv
   refine zq9 (zqf _) ?_
   refine zq9 (zqf _) ?_
   refine zq2a (zqf _) fun b9 hb9 => ?_
   have n9 : b9 ≠ b := fun e => by rw [e, hb] at hb9; cases hb9
   intro b10 hb10
   have n109 : b10 ≠ b9 := fun e => by rw [e, zq2] at hb10; cases hb10
   rw [zq7 _ _ n109] at hb10
   have n10 : b10 ≠ b := fun e => by rw [e, hb] at hb10; cases hb10
   try simp
   generalize hs0 : upd (upd st b9 (.cells (tree t).cells)) b10 (.cells [.int .i64 0, .int .i64 0, .str [], .sl 0 true []]) = s0
   have e9 : s0 b9 = some (.cells (tree t).cells) := by rw [← hs0, zq7 _ _ n109.symm]; exact zq2 _ _ _
   have e10 : s0 b10 = some (.cells [.int .i64 0, .int .i64 0, .str [], .sl 0 true []]) := by rw [← hs0]; exact zq2 _ _ _
   have eb : s0 b = some (cntR mo k) := by rw [← hs0, zq7 _ _ n10.symm, zq7 _ _ n9.symm]; exact hb
   have ar : zq16 b st s0 := by rw [← hs0]; exact ((zq16.refl b st).put hb9 _).put hb10 _
   clear hs0
   try simp [zq6 e9]
   refine zq52 fun J hJ => ?_
   refine zqz (β := PV × List Tr × Int × St × St) t.kids (fun z i => [z.1, .int .i64 (i : Int)]) (fun z => z.2.2.2.2)
    (fun z i rest => Grow z.2.2.2.1 4 (z.2.1.map tree) z.1 z.2.2.2.2 ∧ z.2.2.2.1 b9 = some (.cells (tree t).cells) ∧ z.2.2.2.1 b10 = some (.cells [.int .i64 0, .int .i64 0, .str [], .sl 0 true []]) ∧ z.2.2.2.1 b = some (cntR mo z.2.2.1) ∧ zq16 b st z.2.2.2.1 ∧
      k ≤ z.2.2.1 ∧ z.2.2.1 ≤ 20000 ∧ z.2.1.length = i ∧ (∀ y ∈ z.2.1, y.lamy = true ∧ y.big = false) ∧ restT N m a t n i z.2.1 rest z.2.2.1 = v) ?_ ?_ (_, [], k, s0, s0) ⟨Grow.nil _ _ _, e9, e10, eb, ar, by simp, h1, rfl, by simp, hv⟩
   ·rintro i x rest ⟨p, ys, k1, sb, s⟩ hi hx ⟨hg, e9, e10, eb, ar, k0, k2, hyl, hys, hq⟩ kk
    simp only at hg e9 e10 eb ar k0 k2 hyl hys hq
    rw [restT_cons] at hq
    have hxm := List.mem_of_getElem? hx
    try simp [hi, zq4r _ hx]
    intro b13 hb13
    have hg2 := hg.beside (.cells (tree x).cells) hb13
    have hb13' := hg.sub.isNone hb13
    have m9 : b9 ≠ b13 := fun e => by rw [← e, e9] at hb13'; cases hb13'
    have m10 : b10 ≠ b13 := fun e => by rw [← e, e10] at hb13'; cases hb13'
    have mb : b ≠ b13 := fun e => by rw [← e, eb] at hb13'; cases hb13'
    try simp
    generalize hsb : upd sb b13 (.cells (tree x).cells) = sb1 at hg2
    have f9 : sb1 b9 = some (.cells (tree t).cells) := by rw [← hsb, zq7 _ _ m9]; exact e9
    have f10 : sb1 b10 = some (.cells [.int .i64 0, .int .i64 0, .str [], .sl 0 true []]) := by rw [← hsb, zq7 _ _ m10]; exact e10
    have fb : sb1 b = some (cntR mo k1) := by rw [← hsb, zq7 _ _ mb]; exact eb
    have f13 : sb1 b13 = some (.cells (tree x).cells) := by rw [← hsb]; exact zq2 _ _ _
    have ar1 : zq16 b st sb1 := by rw [← hsb]; exact ar.put (ar.isNone mb.symm hb13') _
    clear hsb
    generalize upd s b13 (.cells (tree x).cells) = s1 at hg2
    have g9 := hg2.sub.get f9
    have g13 := hg2.sub.get f13
    have gb := hg2.sub.get fb
    try simp [zq6 g13]
    refine zq1 (zq3i t i (PT.ptr g9)) ?_
    try simp [zq6 g13]
    refine zq89 (ih m a x _ k1 s1 hm hms ha (Tr.lamy_kids ht hxm) (by have := Tr.kid_size hxm; omega) (by omega) k2 (by have := Tr.kid_size hxm; omega) gb) (fun y k3 hy => ?_) (fun c k3 hc => ?_)
    ·have hy' : subT N m a x (W (n + t.under i)) k1 = (.inr y, k3) := hy
     have hfine := zqgu N m a x (W (n + t.under i)) k1 hm (Tr.lamy_kids ht hxm) ha (by omega) k2 (by have := Tr.kid_size hxm; omega)
     rw [hy'] at hq hfine
     simp only at hq
     obtain ⟨p1, _, _, p4⟩ := hfine
     obtain ⟨q1, q2, q3⟩ := p4 y rfl
     simp only at p1 q3
     try simp
     have hg3 := hg2.store (cntR mo k3) fb
     refine hg3.append (zq2n _ _ _ _) (by simp; omega) fun p' s' hg' => ?_
     try simp
     rw [W_idx hi (by unfold maxLen; omega)]
     have j9 : (upd sb1 b (cntR mo k3)) b9 = some (.cells (tree t).cells) := by rw [zq7 _ _ n9]; exact f9
     have j10 : (upd sb1 b (cntR mo k3)) b10 = some (.cells [.int .i64 0, .int .i64 0, .str [], .sl 0 true []]) := by rw [zq7 _ _ n10]; exact f10
     have jb : (upd sb1 b (cntR mo k3)) b = some (cntR mo k3) := zq2 _ _ _
     refine kk (p', ys ++ [y], k3, upd sb1 b (cntR mo k3), s') ⟨by simpa using hg', j9, j10, jb, ar1.draw _, (by simp only; omega), q3, by simp [hyl], ?_, hq⟩
     intro z hz
     rcases List.mem_append.1 hz with h | h
     ·exact hys z h
     ·simp at h; subst h; exact ⟨q1, q2⟩
    ·have hc' : subT N m a x (W (n + t.under i)) k1 = (.inl c, k3) := hc
     rw [hc'] at hq
     exact zq7w.pan hq ((ar1.more hg2.sub).draw _) (zq2 _ _ _)
   ·rintro ⟨p, ys, k1, sb, s⟩ ⟨hg, e9, e10, eb, ar, k0, k2, hyl, hys, hq⟩
    simp only at hg e9 e10 eb ar k0 k2 hyl hys hq
    rw [restT_nil, finT] at hq
    try simp
    refine hJ _ _ ?_
    have g9 := hg.sub.get e9
    have g10 := hg.sub.get e10
    have gb := hg.sub.get eb
    refine zq52 fun J1 hJ1 => ?_
    have hput : t.kind = 5 ∧ t.n = n → J1 [.bool true] s := fun h => by
     rw [if_pos h] at hq
     refine hJ1 _ _ ?_
     try simp
     refine zq1 (zq9x m 0 n (by decide) (by omega) _) ?_
     try simp
     refine zql2 (zqfi (m.lift 0 n) (by rw [zqlp]; omega) _) (fun f hf => ?_) (fun c hc => ?_)
     ·split at hf
      ·cases hf
      ·rename_i hbig
       cases hf
       rw [if_neg hbig] at hq
       try simp
       refine zqda (us' := [.ptr b 0, tree (m.lift 0 n), tree a, trees ys]) (st' := sb) (Conv.cons (Conv.sub hg.sub) (Conv.cons (Conv.sub hg.sub) (Conv.cons (Conv.sub hg.sub) hg.freeze))) ?_
       refine zq89 (zqed mo b (fun x a f s => subT N x a f 0 s) (m.lift 0 n) a ys k1 (fun x c g k' s' p1 p2 p3 p4 p5 p6 p7 p8 => ⟨ih x c g 0 k' s' p1 p2 p3 p4 (by omega) (by omega) p7 (by have := t.size_pos; omega) p8, zqgu N x c g 0 k' p1 p4 p3 (by omega) p7 (by have := t.size_pos; omega)⟩) ⟨by omega, k2⟩ ha (lift_lamy m 0 n hm) (by simpa using hbig) (fun x hx => ⟨(hys x hx).1, by have := zqc7 (hys x hx).2; omega⟩) (by omega) sb eb) (fun r k3 hr => ?_) (fun c k3 hc => ?_)
       ·have j10 : (upd sb b (cntR mo k3)) b10 = some (.cells [.int .i64 0, .int .i64 0, .str [], .sl 0 true []]) := by rw [zq7 _ _ n10]; exact e10
        rw [zqh _ _ _ _ _ _ _ j10]
        try simp [zq6 (zq2 _ _ _)]
        rw [hr] at hq
        exact zq7w.ret hq ((ar.draw _).put hb10 _) (by rw [zq7 _ _ n10.symm]; exact zq2 _ _ _)
       ·rw [hc] at hq
        exact zq7w.pan hq (ar.draw _) (zq2 _ _ _)
     ·split at hc
      ·rename_i hbig
       cases hc
       rw [if_pos hbig] at hq
       exact zq7w.pan hq (ar.more hg.sub) gb
      ·cases hc
    have hkeep : ¬ (t.kind = 5 ∧ t.n = n) → J1 [.bool false] s := fun h => by
     rw [if_neg h] at hq
     refine hJ1 _ _ ?_
     try simp
     refine zq52 fun J2 hJ2 => ?_
     obtain ⟨o1, o2, o3, o4⟩ := hg.one
     have last : ∀ (n' : Int) (sb' s' : St), Grow sb' 4 (ys.map tree) p s' → sb' b9 = some (.cells [.int .i64 t.kind, .int .i64 n', .str t.name, .sl 4 false (t.kids.map tree)]) → sb' b10 = some (.cells [.int .i64 0, .int .i64 0, .str [], .sl 0 true []]) → sb' b = some (cntR mo k1) → zq16 b st sb' →
       (if (Tr.mk t.kind n' t.name ys).big = true then ((.inl 11, k1) : (Int ⊕ Tr) × Int) else (.inr (Tr.mk t.kind n' t.name ys), k1)) = v →
       zq4 s' 1 (PV.ptr b9 3) p fun st_3 => qb (zq0 st_3 true 4 (PV.ptr b9 0)) fun v68 => zqb prog n_impl_formed [v68] st_3 (fun v52 st_4 => zq4 st_4 4 (PV.ptr b10 0) v52 fun st_5 => qb (zq0 st_5 true 4 (PV.ptr b10 0)) fun r => retR (zq7w mo ty_impl_halt b v st) r st_5) (panR (zq7w mo ty_impl_halt b v st)) := by
      intro n' sb' s' hg' i9 i10 ib iar hq'
      have k9 := hg'.sub.get i9
      rw [zqh _ _ _ _ _ _ _ k9, o1]
      try simp [o2, o3, o4]
      have hst := hg'.store (.cells [.int .i64 t.kind, .int .i64 n', .str t.name, p]) i9
      try simp [zq6 (zq2 _ _ _)]
      refine zqda (us' := [tree (.mk t.kind n' t.name ys)]) (GrowF.tree (t := .mk t.kind n' t.name ys) (.inl hst)) ?_
      generalize hs4 : upd sb' b9 (.cells [.int .i64 t.kind, .int .i64 n', .str t.name, p]) = s4
      have l10 : s4 b10 = some (.cells [.int .i64 0, .int .i64 0, .str [], .sl 0 true []]) := by rw [← hs4, zq7 _ _ n109]; exact i10
      have lb : s4 b = some (cntR mo k1) := by rw [← hs4, zq7 _ _ n9.symm]; exact ib
      have lar : zq16 b st s4 := by rw [← hs4]; exact iar.put hb9 _
      have hsz : (Tr.mk t.kind n' t.name ys).size ≤ 1000000000 := by
       rw [Tr.size_kids, Tr.kids_mk]
       have := zqk8 ys (fun y hy => (hys y hy).2)
       omega
      refine zql2 (zqfi _ hsz _) (fun f hf => ?_) (fun c hc => ?_)
      ·split at hf
       ·cases hf
       ·rename_i hbig
        cases hf
        rw [if_neg hbig] at hq'
        rw [zqh _ _ _ _ _ _ _ l10]
        try simp [zq6 (zq2 _ _ _)]
        exact zq7w.ret hq' (lar.put hb10 _) (by rw [zq7 _ _ n10.symm]; exact lb)
      ·split at hc
       ·rename_i hbig
        cases hc
        rw [if_pos hbig] at hq'
        exact zq7w.pan hq' lar lb
       ·cases hc
     have i9 : sb b9 = some (.cells [.int .i64 t.kind, .int .i64 t.n, .str t.name, .sl 4 false (t.kids.map tree)]) := by rw [e9, zqj]
     have hlow : ¬ (t.kind = 5 ∧ n < t.n) → J2 [.bool false] s := fun hl => by
      rw [if_neg hl] at hq
      refine hJ2 _ _ ?_
      refine zq52 fun J3 hJ3 => ?_
      try simp
      refine hJ3 _ _ ?_
      exact last t.n sb s hg i9 e10 eb ar hq
     have hhigh : t.kind = 5 ∧ n < t.n → J2 [.bool true] s := fun hh => by
      rw [if_pos hh] at hq
      refine hJ2 _ _ ?_
      refine zq52 fun J3 hJ3 => ?_
      try simp [zq6 (hg.sub.get i9)]
      rw [zqh _ _ _ _ _ _ _ (hg.sub.get i9)]
      try simp
      refine hJ3 _ _ ?_
      refine last (W (t.n - 1)) (upd sb b9 (.cells [.int .i64 t.kind, .int .i64 (W (t.n - 1)), .str t.name, .sl 4 false (t.kids.map tree)])) _ (hg.store _ i9) (zq2 _ _ _) (by rw [zq7 _ _ n109]; exact e10) (by rw [zq7 _ _ n9.symm]; exact eb) (ar.put hb9 _) hq
     try simp [zq6 g9]
     refine zql (fun h5 => ?_) (fun h5 => hlow fun h => h5 h.1)
     by_cases hn : n < t.n
     ·simp [hn]; exact hhigh ⟨h5, hn⟩
     ·simp [hn]; exact hlow fun h => hn h.2
    try simp [zq6 g9]
    refine zql (fun h5 => ?_) (fun h5 => hkeep fun h => h5 h.1)
    by_cases hn : t.n = n
    ·simp [hn]; exact hput ⟨h5, hn⟩
    ·simp [hn]; exact hkeep fun h => hn h.2
end Go.H.Tryz
set_option linter.unusedVariables false
set_option linter.unusedSimpArgs false
namespace Go.H.Tryz
open Go Go.H

theorem zqhl (bs : List UInt8) (hl : bs.length ≤ 1000000000) (st : St) : zq5 prog n_spec_l00Source [zq8p bs] st (Begun bs st) := by
 apply zqi6
 unfold zq9e
 try simp
 rw [show zqkf BinOp.rem IntKind.i64 (bs.length : Int) 1000 = some (.int .i64 (((bs.length % 1000 : Nat)) : Int)) from by
  have := q_rem_nat (i := (bs.length : Int)) (L := 1000) (by omega) (by omega)
  simpa using this]
 simp only [zq20]
 rw [sourceLit]
 simp only [zq20]
 refine zq2a rfl fun b hb => ?_
 refine zq1h (Sub.refl _) ⟨b, _, hb, rfl, rfl, ?_⟩
 have : bs.length % 1000 < 1000 := Nat.mod_lt _ (by omega)
 exact ⟨0, _, zq2 _ _ _, by omega, by omega, by omega, by omega⟩
theorem zqec (bs : List UInt8) (hl : bs.length ≤ 1000000000) (M : Int) (hM : M ≤ 1000000000) (b : Nat) (st : St) (hs : Src bs M b st) : zq5 prog n_spec_l00Src_byte [.ptr b 0] st (Drew bs (M + 1) b (fun p => ∃ k : Int, p = .int .i64 k ∧ 0 ≤ k ∧ k ≤ 255) st) := by
 apply zqeq
 unfold zq7d
 obtain ⟨a, s, h1, h2, h3, h4, h5⟩ := hs.is
 try simp [zq1d, zq6 h1]
 rw [zqs (by omega) (by omega), zqh _ _ _ _ _ _ _ h1]
 try simp [zq6 (zq2 _ _ _)]
 refine zql (fun hle => ?_) (fun hle => ?_)
 ·have hi : a.toNat < bs.length := by omega
  have ea : IntKind.i64.wrap a = ((a.toNat : Nat) : Int) := by rw [zqs (by omega) (by omega)]; omega
  rw [ea, bytesP_ia hi]
  have b1 := byte_le bs[a.toNat]
  have b0 : (0 : Int) ≤ (bs[a.toNat].toNat : Int) := Int.natCast_nonneg _
  try simp [zqe5]
  generalize hx : (bs[a.toNat].toNat : Int) = x at b1 b0
  rw [zqs (n := x) (by omega) (by omega), zqs (n := s * 31) (by omega) (by omega), zqs (n := s * 31 + x) (by omega) (by omega), zqs (n := s * 31 + x + 7) (by omega) (by omega), q_rem (by omega)]
  try simp [zq6 (zq2 _ _ _)]
  rw [ea, bytesP_ia hi]
  try simp
  rw [hx, zqs (n := x) (by omega) (by omega)]
  refine Drew.mk ⟨x, rfl, b0, b1⟩ (Src.mk' (by omega) (by omega) (Int.tmod_nonneg _ (show (0 : Int) ≤ s * 31 + x + 7 by omega)) (Int.tmod_lt_of_pos _ (by omega))) (Sub.refl _)
 ·refine zql (fun hgt => Drew.mk ⟨0, rfl, by omega, by omega⟩ (Src.mk' (by omega) (by omega) h4 h5) (Sub.refl _)) (fun hgt => ?_)
  rw [zqs (n := s * 1103515245) (by omega) (by omega), zqs (n := s * 1103515245 + 12345) (by omega) (by omega), q_rem (by omega)]
  have t0 := Int.tmod_nonneg 2147483648 (show (0 : Int) ≤ s * 1103515245 + 12345 by omega)
  have t1 := Int.tmod_lt_of_pos (s * 1103515245 + 12345) (show (0 : Int) < 2147483648 by omega)
  generalize (s * 1103515245 + 12345).tmod 2147483648 = y at t0 t1
  try simp [zq6 (zq2 _ _ _)]
  rw [show (65536 : Int) = ((65536 : Nat) : Int) from rfl, q_quo_nat t0 (by omega) (by omega)]
  simp only [zq20, zq7z]
  have d0 : (0 : Int) ≤ ((y.toNat / 65536 : Nat) : Int) := Int.natCast_nonneg _
  generalize ((y.toNat / 65536 : Nat) : Int) = z at d0
  rw [q_rem (by omega)]
  try simp
  have u0 := Int.tmod_nonneg 256 d0
  have u1 := Int.tmod_lt_of_pos z (show (0 : Int) < 256 by omega)
  exact Drew.mk ⟨_, rfl, u0, by omega⟩ (Src.mk' (by omega) (by omega) t0 t1) (Sub.refl _)
theorem zqv (bs : List UInt8) (hl : bs.length ≤ 1000000000) (M : Int) (hM : M ≤ 100000000) (n : Int) (hn : n ≤ 256) (b : Nat) (st : St) (hs : Src bs M b st) : zq5 prog n_spec_l00Src_next [.ptr b 0, .int .i64 n] st (Drew bs (M + 1) b (OneOf n) st) := by
 apply zqeo
 unfold zq7b
 try simp
 have keep : Src bs (M + 1) b (upd st b (.cells [zq8p bs, .int .i64 (hs.is.choose), .int .i64 hs.is.choose_spec.choose])) := by
  obtain ⟨h1, h2, h3, h4, h5⟩ := hs.is.choose_spec.choose_spec
  exact Src.mk' h2 (by omega) h4 h5
 refine zql (fun h => Drew.mk ⟨0, rfl, by omega, .inr rfl⟩ keep (by rw [upd_fold hs.is.choose_spec.choose_spec.1]; exact Sub.refl _)) (fun h => ?_)
 refine zql (fun h2 => ?_) (fun h2 => by omega)
 refine zq78 (zqec bs hl M (by omega) b st hs) (fun p o hp hs' => ?_)
 obtain ⟨k, rfl, k0, k1⟩ := hp
 simp only [zq7z]
 rw [q_rem (by omega)]
 try simp
 exact Drew.mk ⟨_, rfl, Int.tmod_nonneg _ k0, .inl (Int.tmod_lt_of_pos _ (by omega))⟩ hs' (Sub.refl _)
theorem zq3l (bs : List UInt8) (hl : bs.length ≤ 1000000000) (M : Int) (hM : M ≤ 100000000) (n : Int) (hn : n ≤ 256 ∧ 0 ≤ n) (b : Nat) (st : St) (hs : Src bs M b st) : zq5 prog n_spec_l00Src_chance [.ptr b 0, .int .i64 n] st (Drew bs (M + 1) b ABool st) := by
 apply zqbs
 unfold zq5p
 refine zq78 (zqv bs hl M hM n hn.1 b st hs) (fun p o hp hs' => ?_)
 obtain ⟨k, rfl, k0, k1⟩ := hp
 try simp
 exact Drew.mk ⟨_, rfl⟩ hs' (Sub.refl _)
end Go.H.Tryz
set_option linter.unusedVariables false
set_option linter.unusedSimpArgs false
namespace Go.H.Tryz
open Go Go.H

end Go.H.Tryz
set_option linter.unusedVariables false
set_option linter.unusedSimpArgs false
namespace Go.H.Tryz
open Go Go.H

theorem zqcv (b : Nat) (ts : List Tr) (m : Int) (hm : 0 ≤ m ∧ m ≤ 1000) {st : St} (hb : st b = some (lk m false)) :
  zq5 prog n_impl_looker_args [.ptr b 0, trees ts] st (zq4x b false (zq34 (Tr.isArg false) ts m) st) := by
 refine zq5.wf zqel fun hw => ?_
 exact zq51 b false ts (trees_wf hw.2.1).1 m hm hb fun t ht m hm {st} hb => zq72 b false t m hm hb
theorem zq5g (b : Nat) (t : Tr) (kd : Bool) (m : Int) (hm : 0 ≤ m ∧ m ≤ 1000) {st : St} (hb : st b = some (lk m false)) :
  zq5 prog n_impl_looker_family [.ptr b 0, tree t, .bool kd] st (zq4x b false (looks (Tr.isFam kd) t m) st) := by
 induction t using Tr.ind generalizing kd m st with
 | _ t ih =>
 apply zqbx
 unfold zq5u
 refine zq9 (zqf _) ?_
 generalize hv : looks (Tr.isFam kd) t m = v
 refine callK_look (zq1w b false m (by omega) hb) (fun m' hm' => ?_) (fun hm' m' => ?_)
 rotate_left
 ·simp
  refine zq4x.no ?_ (Sub.refl (upd st b (lk m' false)))
  rw [← hv]
  split at hm'
  ·cases hm'
  ·exact zqkj ‹_›
 split at hm'
 case isFalse => cases hm'
 rename_i h1
 cases hm'
 have hb' : upd st b (lk (m - 1) false) b = some (lk (m - 1) false) := zq2 _ _ _
 have no : Tr.isFam kd t = false → retR (zq4x b false v st) (.bool false) (upd st b (lk (m - 1) false)) := fun h => zq4x.no (by rw [← hv]; exact looks_no h) (Sub.refl (upd st b (lk (m - 1) false)))
 try simp
 refine zql (fun h1t => ?_) (fun h1t => ?_)
 ·have ht := Tr.isFam_type (kd := kd) h1t
  refine zq50 (fun hkd => ?_) (fun hkd => no (by rw [ht, hkd]; rfl))
  refine zq1 (zq3x t 0 (PT.ref _ _)) ?_
  rw [hkd, Bool.true_and] at ht
  cases hbr : t.bare 0 with
  | true =>
    have hl : t.kids = [] := by unfold Tr.bare at hbr; simp at hbr; exact hbr.2
    have hs1 : t.size = 1 := by rw [Tr.size_kids, hl]; rfl
    refine zq4x.yes (m := m - 1) ?_ (Sub.refl _)
    rw [← hv]; unfold looks
    rw [hkd, if_pos ⟨by rw [ht, hbr], by rw [hs1]; omega⟩, hs1]; rfl
  | false => exact no (by rw [hkd, ht, hbr])
 ·refine zql (fun h3 => ?_) (fun h3 => ?_)
  ·have ht := Tr.isFam_head (kd := kd) h3
   refine zq50 (fun hkd => no (by rw [ht, hkd]; rfl)) (fun hkd => ?_)
   rw [hkd] at ht
   refine zql (fun hn => ?_) (fun hn => no (by rw [hkd, ht, decide_eq_false hn]; rfl))
   refine zq1 (zq2w _ _) ?_
   try simp
   refine zq50 (fun g => ?_) (fun g => no (by rw [hkd, ht, g]; simp))
   rw [decide_eq_true hn, g] at ht
   simp only [Bool.not_false, Bool.true_and] at ht
   rw [hkd, looks_kids ht, if_pos h1] at hv
   refine callK_look (zqcv b t.kids (m - 1) (by omega) hb') (fun m2 hm2 => ?_) (fun hm2 m2 => ?_)
   ·simp
    exact zq4x.yes (by rw [← hv, hm2]) (Sub.refl _)
   ·simp
    exact zq4x.no (m := m2) (by rw [← hv, hm2]) (Sub.refl _)
  ·refine zql (fun h2 => ?_) (fun h2 => no (Tr.isFam_no h1t h3 h2))
   refine zq1 (zq3x t 2 (PT.ref _ _)) ?_
   try simp
   refine zq50 (fun hbr => ?_) (fun hbr => no (Tr.isFam_bad h2 hbr))
   obtain ⟨x, y, hxy⟩ := zq9d hbr
   rw [looks_pi h2 hbr hxy] at hv
   try simp [zq6l (ts := t.kids) (t := x) _ (by rw [hxy]; rfl)]
   refine callK_look (ih x (by rw [hxy]; simp) false (m - 1) (by omega) hb') (fun m2 hm2 => ?_) (fun hm2 m2 => ?_)
   ·have hle := looks_le hm2
    try simp [zqea (ts := t.kids) (t := y) _ (by rw [hxy]; rfl)]
    refine callK_look (ih y (by rw [hxy]; simp) kd m2 (by omega) (by simp [zq11])) (fun m3 hm3 => ?_) (fun hm3 m3 => ?_)
    ·simp
     exact zq4x.yes (by rw [← hv, hm2]; simp only [Option.bind_some]; rw [hm3]) (Sub.refl _)
    ·simp
     exact zq4x.no (m := m3) (by rw [← hv, hm2]; simp only [Option.bind_some]; rw [hm3]) (Sub.refl _)
   ·simp
    exact zq4x.no (m := m2) (by rw [← hv, hm2]; rfl) (Sub.refl _)
end Go.H.Tryz
set_option linter.unusedVariables false
set_option linter.unusedSimpArgs false
namespace Go.H.Tryz
open Go Go.H

theorem zq6n (t : Tr) (st : St) : zq5 prog n_impl_FamilyOK [tree t] st (Just (.bool t.famOK) st) := by
 apply zqk4
 unfold zqbf
 refine zq9 (zqf _) ?_
 generalize hv : t.famOK = v
 unfold Tr.famOK at hv
 rw [← looks_ok] at hv
 try simp
 refine zqa1 (zq5h _) fun b hb => ?_
 try simp
 refine callK_look (zq5g b t false 150 (by omega) (zq2 _ _ _)) (fun m hm => ?_) (fun hm m => ?_)
 ·exact Just.bool (by rw [← hv, hm]; rfl) (by simpa using (Sub.refl st).fresh hb)
 ·exact Just.bool (by rw [← hv, hm]; rfl) (by simpa using (Sub.refl st).fresh hb)
theorem h_impl_KindOK (t : Tr) (st : St) : zq5 prog n_impl_KindOK [tree t] st (Just (.bool t.kindOK) st) := by
 apply c_impl_KindOK
 unfold zqg7
 refine zq9 (zqf _) ?_
 generalize hv : t.kindOK = v
 unfold Tr.kindOK at hv
 rw [← looks_ok] at hv
 try simp
 refine zqa1 (zq5h _) fun b hb => ?_
 try simp
 refine callK_look (zq5g b t true 150 (by omega) (zq2 _ _ _)) (fun m hm => ?_) (fun hm m => ?_)
 ·exact Just.bool (by rw [← hv, hm]; rfl) (by simpa using (Sub.refl st).fresh hb)
 ·exact Just.bool (by rw [← hv, hm]; rfl) (by simpa using (Sub.refl st).fresh hb)
end Go.H.Tryz
set_option linter.unusedVariables false
set_option linter.unusedSimpArgs false
namespace Go.H.Tryz
open Go Go.H

theorem h_impl_erase (t : Tr) (hf : t.isFam false = true) (st : St) : zq5 prog n_impl_erase [tree t] st (Just (tree (zq2x t)) st) := by
 induction t using Tr.ind generalizing st with
 | _ t ih =>
 apply c_impl_erase
 unfold zqil
 refine zq9 (zqf _) ?_
 intro b2 hb2
 have hsub : ∀ o, Sub st (upd st b2 o) := fun o => (Sub.refl st).put hb2
 try simp
 refine zql (fun h2 => ?_) (fun h2 => ?_)
 ·cases hb : t.bare 2 with
  | false => rw [Tr.isFam_bad h2 hb] at hf; cases hf
  | true =>
    obtain ⟨x, y, hxy⟩ := zq9d hb
    rw [Tr.isFam_pi h2 hxy] at hf
    simp only [Bool.and_eq_true] at hf
    have x0 : t.kids[0]? = some x := by rw [hxy]; rfl
    have y1 : t.kids[1]? = some y := by rw [hxy]; rfl
    try simp [zq6l _ x0, zqea _ y1]
    refine zq1 (ih x (by rw [hxy]; simp) hf.2.1 _) ?_
    try simp
    refine zq1 (ih y (by rw [hxy]; simp) hf.2.2 _) ?_
    try simp
    rw [show zqe [PV.int IntKind.i64 0, PV.int IntKind.i64 0, PV.str [], PV.sl 0 true []] [(0, 1, PV.int IntKind.i64 10), (3, 1, PV.sl 4 true [tree (zq2x x), tree (zq2x y)])] = some (.agg [.int .i64 10, .int .i64 0, .str [], .sl 4 true [tree (zq2x x), tree (zq2x y)]]) from rfl]
    try simp
    try simp [zq6 (zq2 _ _ _)]
    rw [zqa0 h2 hxy]
    exact Just.tree (t := Tr.arrow (zq2x x) (zq2x y)) rfl (.inl rfl) rfl rfl rfl (hsub _)
 ·rw [show zqe [PV.int IntKind.i64 0, PV.int IntKind.i64 0, PV.str [], PV.sl 0 true []] [(0, 1, PV.int IntKind.i64 9), (2, 1, PV.str t.name)] = some (.agg [.int .i64 9, .int .i64 0, .str t.name, .sl 0 true []]) from rfl]
  try simp
  try simp [zq6 (zq2 _ _ _)]
  rw [zq2m h2]
  exact Just.tree (t := Tr.base t.name) rfl (.inr rfl) rfl rfl rfl (hsub _)
theorem zq9w (c : Int) (st : St) : zq5 prog n_laws_full [.int .i64 c] st (Just (.bool (decide (c = 11) || decide (c = 17))) st) := by
 apply c_laws_full
 unfold zql5
 generalize hv : (decide (c = 11) || decide (c = 17)) = v
 try simp
 exact zql (fun h => Just.bool (by rw [← hv, decide_eq_true h]; rfl)) (fun h => Just.bool (by rw [← hv, decide_eq_false h]; rfl))
end Go.H.Tryz
set_option linter.unusedVariables false
set_option linter.unusedSimpArgs false
namespace Go.H.Tryz
open Go Go.H

end Go.H.Tryz
