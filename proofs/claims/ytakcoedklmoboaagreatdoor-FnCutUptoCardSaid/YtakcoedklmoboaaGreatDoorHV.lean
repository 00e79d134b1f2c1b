/- Part of a proof that the program answers as the reference does: ZFC40, ZFC41, ZFC42, ZFC43, ZFC51, ZFC52. -/
import Derived.Test.YtakcoedklmoboaaGreatDoorHX
import Derived.Test.YtakcoedklmoboaaGreatDoorHY
import Derived.Test.YtakcoedklmoboaaGreatDoorHO
import Derived.Test.YtakcoedklmoboaaGreatDoorHQ
import Derived.Test.YtakcoedklmoboaaGreatDoorHZ
/- Contracts: what the laws write over values that are owned, and read again. -/
set_option linter.unusedVariables false
set_option linter.unusedSimpArgs false
namespace Go.H.Tryz
open Go Go.H

@[simp] theorem set6_2s (a b c d e f x : PV) : setRange [a, b, c, d, e, f] 2 [x] = [a, b, x, d, e, f] := rfl
@[simp] theorem set6_3s (a b c d e f x : PV) : setRange [a, b, c, d, e, f] 3 [x] = [a, b, c, x, e, f] := rfl
@[simp] theorem set6_4s (a b c d e f x : PV) : setRange [a, b, c, d, e, f] 4 [x] = [a, b, c, d, x, f] := rfl
end Go.H.Tryz
/- Contracts: marks that are read again; copies that own all that they reach. -/
set_option linter.unusedVariables false
set_option linter.unusedSimpArgs false
namespace Go.H.Tryz
open Go Go.H

end Go.H.Tryz
/- Contracts: copies that own all that they reach. -/
set_option linter.unusedVariables false
set_option linter.unusedSimpArgs false
namespace Go.H.Tryz
open Go Go.H

/-! ### The program's copies -/
end Go.H.Tryz
/- Contracts: AddDecl and BuildSig, on both sides. -/
set_option linter.unusedVariables false
set_option linter.unusedSimpArgs false
namespace Go.H.Tryz
open Go Go.H

/-- A row is handed back that is new and that may grow. -/
def RwR (esz : Nat) (xs' : List PV) (st : St) : Res → St → Prop := fun r s => ∃ p D, r = .ret p ∧ Rw st s esz xs' p D ∧ ∀ b, b ∉ D → s b = st b
theorem RwR.ret {st s : St} {esz : Nat} {xs' : List PV} {p : PV} {D : List Nat} (h : Rw st s esz xs' p D) : retR (RwR esz xs' st) p s := by
  refine retR_conv (p' := p) (st' := fun b => if b ∈ D then s b else st b) (Conv.sub fun b o hb => ?_) ⟨p, D, rfl, h.frame (fun b hb => by simp only [if_pos hb]) (fun b o hb => ?_), fun b hb => by simp only [if_neg hb]⟩
  · by_cases hbD : b ∈ D
    · rw [if_pos hbD] at hb; exact hb
    · rw [if_neg hbD] at hb; exact h.sub b o hb
  · have : b ∉ D := fun hd => by rw [h.fresh b hd] at hb; cases hb
    simp only [if_neg this]
    exact hb
theorem RwR.owns {P : Program} {g : FuncId} {us : List PV} {st : St} {esz : Nat} {xs' : List PV} (hc : HCalls P g us st (RwR esz xs' st)) : HCalls P g us st (Owns (.sl esz false xs') st) :=
  hc.mono fun r s h => by
    obtain ⟨p, D, h1, h2, h3⟩ := h
    exact ⟨p, D, h1, h2.nodup, h2.th, h2.fresh, h3⟩
theorem Owns.tupInts {st s : St} {x p : PV} {D : List Nat} (ns : List Int) (hD : D.Nodup) (h : Th s x p D) (hf : ∀ b ∈ D, st b = none) (hs : Sub st s) : retR (Owns (.tup (x :: ns.map (PV.int .i64))) st) (.tup (p :: ns.map (PV.int .i64))) s :=
  Owns.ret hD (Th.tupInts ns h) hf hs
theorem Owns.none {st s : St} {esz e : Nat} (ns : List Int) (hs : Sub st s) : retR (Owns (.tup (.sl esz false [] :: ns.map (PV.int .i64))) st) (.tup (.sl e true [] :: ns.map (PV.int .i64))) s :=
  Owns.tupInts ns (D := []) List.nodup_nil (Th.row.2 (.inl ⟨rfl, ⟨e, true, rfl⟩, rfl⟩)) (by simp) hs
end Go.H.Tryz
/- Contracts: which arguments can be left out. -/
set_option linter.unusedVariables false
set_option linter.unusedSimpArgs false
namespace Go.H.Tryz
open Go Go.H

theorem Rw.bool {st s : St} {xs' : List PV} {p : PV} {D : List Nat} {b : Bool} {v : PV} {K : PV → St → Prop} (h : Rw st s 1 xs' p D) (hv : elems s 1 v = some [.bool b]) (hb : (xs'.length + 1) * 1 ≤ 140737488355328)
    (hk : ∀ p2 s2 D2, Rw st s2 1 (xs' ++ [.bool b]) p2 D2 → (∀ c o, s c = some o → c ∉ D → s2 c = some o) → (∀ c, c ∈ D2 → c ∈ D ∨ s c = none) → K p2 s2) : e_append s 1 1 p v K :=
  h.append (y' := .bool b) (y := .bool b) (Dy := []) (by simp [Th]) (bool_el b) List.nodup_nil (by simp) (by simp) hv hb fun p2 s2 D2 h1 h2 h3 =>
    hk p2 s2 D2 h1 (fun c o a b => h2 c o a b (by simp)) (fun c hc => (h3 c hc).imp id (fun h => by simpa using h))
end Go.H.Tryz
/- Contracts: Omittable, on both sides. -/
set_option linter.unusedVariables false
set_option linter.unusedSimpArgs false
namespace Go.H.Tryz
open Go Go.H

end Go.H.Tryz
