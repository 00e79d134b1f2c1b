/- Part of a proof that the program answers as the reference does: ZHC40, ZHC41, ZHC42, ZHC43, ZHC51, ZHC52. -/
import Derived.Test.YtmjpemdbkenebaaGreatDoorHX
import Derived.Test.YtmjpemdbkenebaaGreatDoorHY
import Derived.Test.YtmjpemdbkenebaaGreatDoorHO
import Derived.Test.YtmjpemdbkenebaaGreatDoorHQ
import Derived.Test.YtmjpemdbkenebaaGreatDoorHZ
set_option linter.unusedVariables false
set_option linter.unusedSimpArgs false
namespace Go.H.Tryz
open Go Go.H

@[simp] theorem set6_2s (a b c d e f x : PV) : zqg [a, b, c, d, e, f] 2 [x] = [a, b, x, d, e, f] := rfl
@[simp] theorem set6_3s (a b c d e f x : PV) : zqg [a, b, c, d, e, f] 3 [x] = [a, b, c, x, e, f] := rfl
@[simp] theorem set6_4s (a b c d e f x : PV) : zqg [a, b, c, d, e, f] 4 [x] = [a, b, c, d, x, f] := rfl
end Go.H.Tryz
set_option linter.unusedVariables false
set_option linter.unusedSimpArgs false
namespace Go.H.Tryz
open Go Go.H

end Go.H.Tryz
set_option linter.unusedVariables false
set_option linter.unusedSimpArgs false
namespace Go.H.Tryz
open Go Go.H

theorem zq6t {s : St} {ks : List Tr} {q : PV} {D : List Nat} (h : Th s (trees ks) q D) : q.cellOK = true ∧ q.ncells = 1 ∧ q.isJunk = false ∧ q.cells = [q] := by
 rw [trees, Th.row] at h
 rcases h with ⟨_, ⟨e, f, rfl⟩, rfl⟩ | ⟨b, xs, cap, D', rfl, _⟩ <;> exact ⟨rfl, rfl, rfl, rfl⟩
theorem zqhr (t : Tr) (hsz : t.size ≤ 1000000000) (st : St) : zq5 prog n_impl_clone [tree t] st (Owns (tree t) st) := by
 induction t using Tr.ind generalizing st with
 | _ t ih =>
 have hl := t.kids_len
 apply c_impl_clone
 unfold zqim
 refine zq2a (zqf _) fun b1 hb1 => ?_
 intro b2 hb2
 have hne : b1 ≠ b2 := fun e => by rw [← e, zq2] at hb2; cases hb2
 rw [zq7 _ _ hne.symm] at hb2
 generalize hs : upd (upd st b1 (.cells (tree t).cells)) b2 (.cells [.int .i64 0, .int .i64 0, .str [], .sl 0 true []]) = s
 have e1 : s b1 = some (.cells (tree t).cells) := by rw [← hs, zq7 _ _ hne]; exact zq2 _ _ _
 have e2 : s b2 = some (.cells [.int .i64 0, .int .i64 0, .str [], .sl 0 true []]) := by rw [← hs]; exact zq2 _ _ _
 have hsub : Sub st s := by
  rw [← hs]
  refine ((Sub.refl st).put hb1).put hb2
 clear hs
 try simp [zq6 e1]
 have hall : zq5 prog n_impl_cloneAll [trees t.kids] s (Owns (trees t.kids) s) := by
  apply zqjz
  unfold zqba
  try simp
  refine zqz (β := PV × List Nat × St) t.kids (fun z i => [z.1, .int .i64 (i : Int)]) (fun z => z.2.2) (fun z i rest => Rw s z.2.2 4 ((t.kids.take i).map tree) z.1 z.2.1) ?_ ?_ (_, [], s) (Rw.start (Sub.refl s) 4 4)
  ·rintro i x rest ⟨p, D, s1⟩ hi hx q0 kk
   simp only at q0
   try simp [hi, zq4r _ hx]
   intro b5 hb5
   try simp
   try simp [zq6 (zq2 _ _ _)]
   have q1 := q0.put hb5 (.cells (tree x).cells)
   generalize upd s1 b5 (.cells (tree x).cells) = s2 at q1
   refine zq4u (ih x (List.mem_of_getElem? hx) (by have := Tr.kid_size (List.mem_of_getElem? hx); omega) s2) fun y Dx s3 hDx hTx hfx hox => ?_
   have keep : ∀ c o, s2 c = some o → s3 c = some o := fun c o hc => by
    rw [hox c (fun h => by rw [hfx c h] at hc; cases hc)]; exact hc
   have q2 : Rw s s3 4 ((t.kids.take i).map tree) p D := q1.frame (fun c hc => by
    obtain ⟨o, ho⟩ := q1.live hc
    rw [ho]; exact keep c o ho) (q1.sub.trans keep)
   have hy := hTx.elOK (tree_el x)
   obtain ⟨n1, n2, n3⟩ := hTx.ncells
   rw [zq4a] at n1
   have hya := hy.2
   rw [List.all_eq_true] at hya
   try simp
   rw [if_pos ⟨n1, hya⟩]
   try simp
   refine q2.append hTx (tree_el x) hDx (fun c hc => q1.sub.isNone (hfx c hc)) (fun c hc h => by obtain ⟨o, ho⟩ := q1.live hc; rw [hfx c h] at ho; cases ho) (zq2n _ _ _ _) (by simp; omega) fun p2 s4 D2 q3 _ _ => ?_
   rw [W_idx hi (by unfold maxLen; omega)]
   refine kk (p2, D2, s4) ?_
   simp only
   rw [zqgt hx, List.map_append]
   exact q3
  ·rintro ⟨p, D, s1⟩ q0
   simp only at q0
   rw [List.take_of_length_le (Nat.le_refl _)] at q0
   try simp
   exact Owns.row q0
 refine zq4u (by simpa using hall) fun q D s2 hD hT hf ho => ?_
 have keep : ∀ c o, s c = some o → s2 c = some o := fun c o hc => by
  rw [ho c (fun h => by rw [hf c h] at hc; cases hc)]; exact hc
 have f1 := keep _ _ e1
 have f2 := keep _ _ e2
 obtain ⟨c1, c2, c3, c4⟩ := zq6t (by simpa using hT)
 try simp
 rw [zqh _ _ _ _ _ _ _ f1]
 try simp [c1, c2, c3, c4]
 try simp [zq6 (zq2 _ _ _)]
 have g2 : ∀ o, (upd s2 b1 o) b2 = some (.cells [.int .i64 0, .int .i64 0, .str [], .sl 0 true []]) := fun o => by rw [zq7 _ _ hne.symm]; exact f2
 rw [zqh _ _ _ _ _ _ _ (g2 _)]
 try simp [c1]
 try simp [zq6 (zq2 _ _ _)]
 have nD : ∀ c ∈ D, c ≠ b1 ∧ c ≠ b2 := fun c hc => ⟨(fun e => by rw [e] at hc; rw [hf b1 hc] at e1; cases e1), (fun e => by rw [e] at hc; rw [hf b2 hc] at e2; cases e2)⟩
 refine Owns.ret hD (Th.tree.2 ⟨q, rfl, hT.frame _ _ _ fun c hc => ?_⟩) (fun c hc => hsub.isNone (hf c hc)) ?_
 ·rw [zq7 _ _ (nD c hc).2, zq7 _ _ (nD c hc).1]
 ·exact ((hsub.trans keep).put hb1).put hb2
end Go.H.Tryz
set_option linter.unusedVariables false
set_option linter.unusedSimpArgs false
namespace Go.H.Tryz
open Go Go.H

def addT (sig : List Dc) (d : Dc) : Fz := if (declT sig d).1 ≠ 0 then declT sig d else if 40 ≤ sig.length then (17, 0) else (0, 0)
theorem zqj9 (sig : List Dc) (hs : SigR sig) (d : Dc) (st : St) : zq5 prog n_impl_addFault [zqa7 sig, decl d] st (Just (haltP (addT sig d)) st) := by
 apply zqk1
 unfold zqbc
 generalize hv : addT sig d = v
 unfold addT at hv
 refine zq9 (zq77 _) ?_
 intro b4 hb4
 have e4 : ∀ o, (upd st b4 (.cells o)) b4 = some (.cells o) := fun o => zq2 _ _ _
 have hsub : ∀ o, Sub st (upd st b4 o) := fun o => (Sub.refl st).put hb4
 try simp
 refine zq1 (zqai d _) ?_
 try simp
 refine zq50 (fun g1 => ?_) (fun g1 => ?_)
 rotate_left
 ·have hd : declT sig d = (1, 0) := by unfold declT; rw [if_pos g1]
  rw [hd, if_pos (by decide)] at hv
  rw [show zqe [PV.int IntKind.i64 0, PV.int IntKind.i64 0] [(0, 1, PV.int IntKind.i64 1)] = some (.agg [.int .i64 1, .int .i64 0]) from rfl]
  try simp
  try simp [zq6 (zq2 _ _ _)]
  rw [← hv]
  exact Just.ret (hsub _)
 ·refine zq1 (by simpa using h_impl_has sig hs.len d.name _) ?_
  try simp
  refine zq50 (fun g2 => ?_) (fun g2 => ?_)
  ·have hd : declT sig d = (6, 0) := by unfold declT; rw [if_neg (by rw [g1]; simp), if_pos g2]
   rw [hd, if_pos (by decide)] at hv
   rw [show zqe [PV.int IntKind.i64 0, PV.int IntKind.i64 0] [(0, 1, PV.int IntKind.i64 6)] = some (.agg [.int .i64 6, .int .i64 0]) from rfl]
   try simp
   try simp [zq6 (zq2 _ _ _)]
   rw [← hv]
   exact Just.ret (hsub _)
  ·have hd : declT sig d = zq5m sig d := by unfold declT; rw [if_neg (by rw [g1]; simp), if_neg (by rw [g2]; simp)]
   rw [hd] at hv
   refine zq1 (by simpa using zq95 sig hs d (form_fk g1) _) ?_
   unfold haltP
   intro b5 hb5
   have n45 : b4 ≠ b5 := fun e => by rw [← e, e4] at hb5; cases hb5
   rw [zq7 _ _ n45.symm] at hb5
   try simp
   try simp [zq6 (zq2 _ _ _)]
   have i4 : ∀ o, (upd (upd st b4 (.cells [.int .i64 0, .int .i64 0])) b5 o) b4 = some (.cells [.int .i64 0, .int .i64 0]) := fun o => by rw [zq7 _ _ n45]; exact e4 _
   have hsub2 : ∀ o o', Sub st (upd (upd (upd st b4 (.cells [.int .i64 0, .int .i64 0])) b5 o) b4 o') := fun o o' => (((Sub.refl st).put hb4).put hb5).put hb4
   refine zql (fun g3 => ?_) (fun g3 => ?_)
   ·rw [if_neg (by simpa using g3)] at hv
    refine zql (fun g4 => ?_) (fun g4 => ?_)
    ·rw [if_pos (by omega)] at hv
     rw [show zqe [PV.int IntKind.i64 0, PV.int IntKind.i64 0] [(0, 1, PV.int IntKind.i64 17)] = some (.agg [.int .i64 17, .int .i64 0]) from rfl]
     simp only [zq20]
     rw [zqh _ _ _ _ _ _ _ (i4 _)]
     try simp
     try simp [zq6 (zq2 _ _ _)]
     rw [← hv]
     exact Just.ret (hsub2 _ _)
    ·rw [if_neg (by omega)] at hv
     rw [show zqe [PV.int IntKind.i64 0, PV.int IntKind.i64 0] [] = some (.agg [.int .i64 0, .int .i64 0]) from rfl]
     simp only [zq20]
     rw [zqh _ _ _ _ _ _ _ (i4 _)]
     try simp
     try simp [zq6 (zq2 _ _ _)]
     rw [← hv]
     exact Just.ret (hsub2 _ _)
   ·rw [if_pos (by simpa using g3)] at hv
    rw [zqh _ _ _ _ _ _ _ (i4 _)]
    try simp
    try simp [zq6 (zq2 _ _ _)]
    rw [← hv]
    exact Just.ret (hsub2 _ _)
theorem Owns.tupInts {st s : St} {x p : PV} {D : List Nat} (ns : List Int) (hD : D.Nodup) (h : Th s x p D) (hf : ∀ b ∈ D, st b = none) (hs : Sub st s) : retR (Owns (.tup (x :: ns.map (PV.int .i64))) st) (.tup (p :: ns.map (PV.int .i64))) s :=
 Owns.ret hD (Th.tupInts ns h) hf hs
end Go.H.Tryz
set_option linter.unusedVariables false
set_option linter.unusedSimpArgs false
namespace Go.H.Tryz
open Go Go.H

end Go.H.Tryz
set_option linter.unusedVariables false
set_option linter.unusedSimpArgs false
namespace Go.H.Tryz
open Go Go.H

theorem zq91 (n : List UInt8) (st : St) : zq5 prog n_impl_longText [.str n] st (Just (.bool (decide (n.length > 65536))) st) := by
 apply zqjx
 unfold zqb8
 try simp
 exact Just.bool (by simp; omega) (Sub.refl _)
end Go.H.Tryz
