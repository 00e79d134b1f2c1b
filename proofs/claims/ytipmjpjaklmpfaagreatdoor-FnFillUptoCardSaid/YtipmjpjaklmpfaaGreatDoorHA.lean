/- Part of a proof that the program answers as the reference does: HCore1, HCore2, HCore3, HCore4, HCore5, HCore6. -/
import Derived.WalkKit
import Derived.Orders
import Derived.RangeFuncSeq
import Derived.OrdersIn
namespace Go.H
open Go
set_option linter.unusedSectionVars false
set_option linter.unusedVariables false

inductive PV where
  | junk
  | int (k : IntKind) (n : Int)
  | bool (b : Bool)
  | str (s : List UInt8)
  | agg (cs : List PV)
  | tup (vs : List PV)
  | sl (esz : Nat) (full : Bool) (xs : List PV)
  | vsl (b n cap : Nat)
  | ref (cs : List PV)
  | ptr (b off : Nat)
  | eptr (b esz i r : Nat)
  | nilp
  | fn (f : Fn) (first caps : List PV)
  | nilfn
  | iface (t : TypeId) (v : PV)
  | niliface
  | map (b : Nat)
  | nilmap
  deriving Inhabited

def PV.isAgg : PV → Bool | .agg _ => true | _ => false
def PV.cells : PV → List PV | .agg cs => cs | p => [p]
def PV.ncells : PV → Nat | .agg cs => cs.length | _ => 1
def PV.cellOK : PV → Bool | .junk => false | .tup _ => false | .agg _ => false | _ => true
def elOK (esz : Nat) (x : PV) : Prop := x.ncells = esz ∧ x.cells.all PV.cellOK = true
def vIsAgg : Value → Bool | .agg _ => true | _ => false

def At (C : Nat → Nat → Value → Prop) (b off : Nat) (cs : List Value) : Prop := ∀ j v, cs[j]? = some v → C b (off + j) v

mutual
def RX (C : Nat → Nat → Value → Prop) : PV → List Value → Prop
  | .junk, _ => False
  | .int k n, vs => vs = [.int k n]
  | .bool b, vs => vs = [.bool b]
  | .str s, vs => vs = [.string ⟨s.toArray⟩]
  | .agg cs, vs => RCs C cs vs
  | .tup ps, vs => ∃ ws : List Value, vs = [.tuple ws.toArray] ∧ RVs C ps ws
  | .sl esz full xs, vs => ∃ a n cap, vs = [.slice a n cap] ∧ n = xs.length ∧ n ≤ cap ∧ cap ≤ maxLen ∧ (full = true → cap = n) ∧ (∀ x ∈ xs, elOK esz x) ∧
      (xs = [] ∨ ∃ b off cs, a = some ⟨b, off, none⟩ ∧ At C b off cs ∧ RXs C xs cs)
  | .vsl b n cap, vs => vs = [.slice (some ⟨b, 0, none⟩) n cap]
  | .ref ps, vs => ∃ b off cs, vs = [.pointer (some ⟨b, off, none⟩)] ∧ At C b off cs ∧ RCs C ps cs
  | .ptr b off, vs => vs = [.pointer (some ⟨b, off, none⟩)]
  | .eptr b esz i r, vs => vs = [.pointer (some ⟨b, i * esz + r, none⟩)]
  | .nilp, vs => vs = [.pointer none]
  | .fn f first caps, vs => ∃ vf vc : List Value, vs = [.func f vf.toArray vc.toArray] ∧ RVs C first vf ∧ RVs C caps vc
  | .nilfn, vs => vs = [.nilFunc]
  | .iface t p, vs => ∃ v, vs = [.iface t v] ∧ p.isAgg = vIsAgg v ∧ RX C p v.cells.toList
  | .niliface, vs => vs = [.nilIface]
  | .map b, vs => vs = [.map (some b)]
  | .nilmap, vs => vs = [.map none]
def RCs (C : Nat → Nat → Value → Prop) : List PV → List Value → Prop
  | [], vs => vs = []
  | p :: ps, vs => ∃ v vs', vs = v :: vs' ∧ RX C p [v] ∧ RCs C ps vs'
def RXs (C : Nat → Nat → Value → Prop) : List PV → List Value → Prop
  | [], vs => vs = []
  | p :: ps, vs => ∃ c1 c2, vs = c1 ++ c2 ∧ RX C p c1 ∧ RXs C ps c2
def RVs (C : Nat → Nat → Value → Prop) : List PV → List Value → Prop
  | [], vs => vs = []
  | p :: ps, vs => ∃ v vs', vs = v :: vs' ∧ (p = .junk ∨ (p.isAgg = vIsAgg v ∧ RX C p v.cells.toList)) ∧ RVs C ps vs'
end

def RV (C : Nat → Nat → Value → Prop) (p : PV) (v : Value) : Prop := p.isAgg = vIsAgg v ∧ RX C p v.cells.toList
def RO (C : Nat → Nat → Value → Prop) (p : PV) (v : Value) : Prop := p = .junk ∨ RV C p v

section
variable {C C' : Nat → Nat → Value → Prop} (hC : ∀ b o v, C b o v → C' b o v)
include hC
theorem At.mono {b off : Nat} {cs : List Value} (h : At C b off cs) : At C' b off cs := fun j v hj => hC _ _ _ (h j v hj)
mutual
theorem RX.mono : ∀ (p : PV) (vs : List Value), RX C p vs → RX C' p vs
  | .junk, _, h => h
  | .int .., _, h => by simpa only [RX] using h
  | .bool .., _, h => by simpa only [RX] using h
  | .str .., _, h => by simpa only [RX] using h
  | .agg cs, vs, h => by simp only [RX] at h ⊢; exact RCs.mono cs vs h
  | .tup ps, vs, h => by
    simp only [RX] at h ⊢
    obtain ⟨ws, e, h⟩ := h
    exact ⟨ws, e, RVs.mono ps ws h⟩
  | .sl _ _ xs, vs, h => by
    simp only [RX] at h ⊢
    obtain ⟨a, n, cap, e, h1, h2, h3, h4, h5, h6⟩ := h
    refine ⟨a, n, cap, e, h1, h2, h3, h4, h5, ?_⟩
    rcases h6 with h6 | ⟨b, off, cs, e1, h7, h8⟩
    · exact .inl h6
    · exact .inr ⟨b, off, cs, e1, h7.mono hC, RXs.mono xs cs h8⟩
  | .vsl .., _, h => by simpa only [RX] using h
  | .ref ps, vs, h => by
    simp only [RX] at h ⊢
    obtain ⟨b, off, cs, e, h7, h8⟩ := h
    exact ⟨b, off, cs, e, h7.mono hC, RCs.mono ps cs h8⟩
  | .ptr .., _, h => by simpa only [RX] using h
  | .eptr .., _, h => by simpa only [RX] using h
  | .nilp, _, h => by simpa only [RX] using h
  | .fn _ first caps, vs, h => by
    simp only [RX] at h ⊢
    obtain ⟨vf, vc, e, h1, h2⟩ := h
    exact ⟨vf, vc, e, RVs.mono first vf h1, RVs.mono caps vc h2⟩
  | .nilfn, _, h => by simpa only [RX] using h
  | .iface _ p, vs, h => by
    simp only [RX] at h ⊢
    obtain ⟨v, e, h1, h2⟩ := h
    exact ⟨v, e, h1, RX.mono p _ h2⟩
  | .niliface, _, h => by simpa only [RX] using h
  | .map .., _, h => by simpa only [RX] using h
  | .nilmap, _, h => by simpa only [RX] using h
theorem RCs.mono : ∀ (ps : List PV) (vs : List Value), RCs C ps vs → RCs C' ps vs
  | [], _, h => by simpa only [RCs] using h
  | p :: ps, vs, h => by
    simp only [RCs] at h ⊢
    obtain ⟨v, vs', e, h1, h2⟩ := h
    exact ⟨v, vs', e, RX.mono p _ h1, RCs.mono ps vs' h2⟩
theorem RXs.mono : ∀ (ps : List PV) (vs : List Value), RXs C ps vs → RXs C' ps vs
  | [], _, h => by simpa only [RXs] using h
  | p :: ps, vs, h => by
    simp only [RXs] at h ⊢
    obtain ⟨c1, c2, e, h1, h2⟩ := h
    exact ⟨c1, c2, e, RX.mono p _ h1, RXs.mono ps c2 h2⟩
theorem RVs.mono : ∀ (ps : List PV) (vs : List Value), RVs C ps vs → RVs C' ps vs
  | [], _, h => by simpa only [RVs] using h
  | p :: ps, vs, h => by
    simp only [RVs] at h ⊢
    obtain ⟨v, vs', e, h1, h2⟩ := h
    exact ⟨v, vs', e, h1.imp id (fun h => ⟨h.1, RX.mono p _ h.2⟩), RVs.mono ps vs' h2⟩
end
end

theorem RV.mono {C C' : Nat → Nat → Value → Prop} (hC : ∀ b o v, C b o v → C' b o v) {p : PV} {v : Value} (h : RV C p v) : RV C' p v := ⟨h.1, RX.mono hC p _ h.2⟩
theorem RO.mono {C C' : Nat → Nat → Value → Prop} (hC : ∀ b o v, C b o v → C' b o v) {p : PV} {v : Value} (h : RO C p v) : RO C' p v := h.imp id (RV.mono hC)
def ROs (C : Nat → Nat → Value → Prop) : List PV → List Value → Prop
  | [], vs => vs = []
  | p :: ps, vs => ∃ v vs', vs = v :: vs' ∧ RO C p v ∧ ROs C ps vs'
theorem ROs.mono {C C' : Nat → Nat → Value → Prop} (hC : ∀ b o v, C b o v → C' b o v) : ∀ {ps : List PV} {vs : List Value}, ROs C ps vs → ROs C' ps vs
  | [], _, h => h
  | _ :: _, _, ⟨v, vs', e, h1, h2⟩ => ⟨v, vs', e, h1.mono hC, ROs.mono hC h2⟩

theorem RO_junk (C : Nat → Nat → Value → Prop) (v : Value) : RO C .junk v := .inl rfl

section lists
variable {C : Nat → Nat → Value → Prop}
theorem ROs.length : ∀ {ps : List PV} {vs : List Value}, ROs C ps vs → vs.length = ps.length
  | [], _, h => by simp [ROs] at h; simp [h]
  | _ :: _, _, ⟨v, vs', e, _, h2⟩ => by subst e; simp [ROs.length h2]
theorem RCs.length : ∀ {ps : List PV} {vs : List Value}, RCs C ps vs → vs.length = ps.length
  | [], _, h => by simp [RCs] at h; simp [h]
  | _ :: _, _, h => by
    simp only [RCs] at h
    obtain ⟨v, vs', e, _, h2⟩ := h
    subst e; simp [RCs.length h2]
theorem RVs.length : ∀ {ps : List PV} {vs : List Value}, RVs C ps vs → vs.length = ps.length
  | [], _, h => by simp [RVs] at h; simp [h]
  | _ :: _, _, h => by
    simp only [RVs] at h
    obtain ⟨v, vs', e, _, h2⟩ := h
    subst e; simp [RVs.length h2]
theorem RX.length {p : PV} {vs : List Value} (h : RX C p vs) : vs.length = p.ncells := by
  cases p <;> simp only [RX] at h <;> first
    | exact h.elim
    | (subst h; rfl)
    | exact RCs.length h
    | (obtain ⟨a, n, cap, e, _⟩ := h; subst e; rfl)
    | (obtain ⟨b, off, cs, e, _⟩ := h; subst e; rfl)
    | (obtain ⟨b, off, e, _⟩ := h; subst e; rfl)
    | (obtain ⟨b, e, _⟩ := h; subst e; rfl)
theorem ROs.get : ∀ {ps : List PV} {vs : List Value}, ROs C ps vs → ∀ t, RO C (ps.getD t .junk) (vs.getD t undef)
  | [], _, h, t => by simp [ROs] at h; subst h; exact RO_junk _ _
  | p :: ps, _, ⟨v, vs', e, h1, h2⟩, t => by
    subst e
    cases t with
    | zero => simpa using h1
    | succ t => simpa using ROs.get h2 t
theorem ROs.set : ∀ {ps : List PV} {vs : List Value}, ROs C ps vs → ∀ (t : Nat) (p : PV) (v : Value), RO C p v → ROs C (ps.set t p) (vs.set t v)
  | [], _, h, t, p, v, hv => by simp [ROs] at h; subst h; simp [ROs]
  | q :: ps, _, ⟨u, vs', e, h1, h2⟩, t, p, v, hv => by
    subst e
    cases t with
    | zero => exact ⟨v, vs', rfl, hv, h2⟩
    | succ t => exact ⟨u, vs'.set t v, rfl, h1, ROs.set h2 t p v hv⟩
theorem ROs.append : ∀ {ps qs : List PV} {vs us : List Value}, ROs C ps vs → ROs C qs us → ROs C (ps ++ qs) (vs ++ us)
  | [], _, _, _, h, h' => by simp [ROs] at h; subst h; simpa using h'
  | _ :: _, _, _, _, ⟨v, vs', e, h1, h2⟩, h' => by subst e; exact ⟨v, _, rfl, h1, ROs.append h2 h'⟩
theorem ROs.junks : ∀ (n : Nat) (vs : List Value), vs.length = n → ROs C (List.replicate n .junk) vs
  | 0, vs, h => by simpa [ROs] using h
  | n + 1, vs, h => by
    cases vs with
    | nil => simp at h
    | cons v vs => exact ⟨v, vs, rfl, RO_junk _ _, ROs.junks n vs (by simpa using h)⟩
theorem RVs.ros : ∀ {ps : List PV} {vs : List Value}, RVs C ps vs → ROs C ps vs
  | [], _, h => by simpa [RVs, ROs] using h
  | _ :: _, _, h => by
    simp only [RVs] at h
    obtain ⟨v, vs', e, h1, h2⟩ := h
    exact ⟨v, vs', e, h1, RVs.ros h2⟩
theorem RVs.of_ros : ∀ {ps : List PV} {vs : List Value}, ROs C ps vs → RVs C ps vs
  | [], _, h => by simpa [ROs, RVs] using h
  | p :: ps, _, ⟨v, vs', e, h1, h2⟩ => by
    simp only [RVs]
    exact ⟨v, vs', e, h1, RVs.of_ros h2⟩
end lists
end Go.H
namespace Go.H
open Go
set_option linter.unusedVariables false

inductive HObj where
  | cells (vs : List PV)
  | vec (esz : Nat) (xs : List PV) (cap : Nat)
  | map (kvs : List (PV × PV))
  | loop (env : List PV) (r : Loop)
abbrev St := Nat → Option HObj
def upd (st : St) (b : Nat) (o : HObj) : St := fun c => if c = b then some o else st c
def del (st : St) (b : Nat) : St := fun c => if c = b then none else st c

def Cw (w : World) (st : St) (b o : Nat) (v : Value) : Prop := w.cell? ⟨b, o, none⟩ = some v ∧ st b = none

def RMs (C : Nat → Nat → Value → Prop) : List (PV × PV) → List MapEntry → Prop
  | [], es => es = []
  | kv :: kvs, es => ∃ e es', es = e :: es' ∧ RV C kv.1 e.key ∧ RV C kv.2 e.val ∧ RMs C kvs es'
theorem RMs.mono {C C' : Nat → Nat → Value → Prop} (hC : ∀ b o v, C b o v → C' b o v) : ∀ {kvs : List (PV × PV)} {es : List MapEntry}, RMs C kvs es → RMs C' kvs es
  | [], _, h => h
  | _ :: _, _, ⟨e, es', he, h1, h2, h3⟩ => ⟨e, es', he, h1.mono hC, h2.mono hC, RMs.mono hC h3⟩

def ObjOK (w : World) (C : Nat → Nat → Value → Prop) (b : Nat) : HObj → Prop
  | .cells vs => ∃ arr t, w.heap[b]? = some (.cells arr t (0, 0)) ∧ RCs C vs arr.toList
  | .vec esz xs cap => ∃ arr t, w.heap[b]? = some (.cells arr t (0, 0)) ∧ arr.size = cap * esz ∧ cap ≤ maxLen ∧ 0 < esz ∧ xs.length ≤ cap ∧
      (∀ x ∈ xs, elOK esz x) ∧ RXs C xs (arr.toList.take (xs.length * esz))
  | .map kvs => ∃ es clock, w.heap[b]? = some (.map es clock) ∧ RMs C kvs es.toList
  | .loop env r => w.heap[b]? = some (.loop r) ∧ ROs C env r.tmps.toList

def Good (w : World) (st : St) : Prop := ∀ b o, st b = some o → ObjOK w (Cw w st) b o

structure Evo (w : World) (st : St) (w' : World) (st' : St) : Prop where
  os : w'.os = w.os
  tape : w'.tape = w.tape
  output : w'.output = w.output
  size : w.heap.size ≤ w'.heap.size
  block : ∀ b, b < w.heap.size → st b = none → w'.heap[b]? = w.heap[b]? ∧ st' b = none

inductive Res where
  | ret (p : PV)
  | pan (p : PV)

def Post (R : Res → St → Prop) (w : World) (st : St) (e : Ending) (w' : World) : Prop :=
  ∃ r st', Evo w st w' st' ∧ Good w' st' ∧ R r st' ∧
    (match e, r with
     | .returned v, .ret p => RO (Cw w' st') p v
     | .panicked ch, .pan p => ∃ v, ch = [{ v, recovered := false }] ∧ RO (Cw w' st') p v
     | _, _ => False)

def Enters (P : Program) (f : FuncId) : Prop := ∃ fn, P.funcs[f]? = some fn ∧ fn.body.isSome = true ∧ (fn.name == "runtime.NumGoroutine") = false

def HCalls (P : Program) (f : FuncId) (args : List PV) (st : St) (R : Res → St → Prop) : Prop :=
  Enters P f ∧ ∀ w vals, Good w st → ROs (Cw w st) args vals → Calls P f vals.toArray w (Post R w st)

def Conv (ls : List PV) (st : St) (ls' : List PV) (st' : St) : Prop :=
  ∀ w, Good w st → Good w st' ∧ Evo w st w st' ∧ ∀ vals, ROs (Cw w st) ls vals → ROs (Cw w st') ls' vals

inductive Shp where
  | int (k : IntKind) | bool | string | pointer | slice (e : TypeId) | array (n : Nat) (e : TypeId) | map (k e : TypeId) | func | iface
  | struct (fs : List (Nat × TypeId)) | other
structure TD where
  size : Nat
  bytes : Nat
  shape : Shp
  zero : List PV
def Shp.agg : Shp → Bool | .struct _ => true | .array .. => true | _ => false

def elZ (d : TD) : PV := match d.shape.agg with | true => .agg d.zero | false => (match d.zero with | [z] => z | _ => .junk)

def PV.isJunk : PV → Bool | .junk => true | _ => false
def cP1 : Value → PV
  | .int k n => .int k n
  | .bool b => .bool b
  | .string s => .str s.data.toList
  | .pointer none => .nilp
  | .slice none 0 0 => .sl 0 true []
  | .nilFunc => .nilfn
  | .nilIface => .niliface
  | .map none => .nilmap
  | _ => .junk
def cPV : Value → PV
  | .agg cs => if (cs.toList.map cP1).all PV.cellOK then .agg (cs.toList.map cP1) else .junk
  | .tuple vs => if vs.toList.isEmpty then .tup [] else .junk
  | v => cP1 v

def evO (env : List PV) : Operand → PV
  | .tmp t => env.getD t .junk
  | .const v => cPV v
  | .func f => .fn (.func f) [] []
  | .global _ => .junk

def qb (q : Option PV) (k : PV → Prop) : Prop := match q with | some p => k p | none => False

def takeV (agg : Bool) (n : Nat) (cs : List PV) : Option PV :=
  match agg with
  | true => if n ≤ cs.length then some (.agg (cs.take n)) else none
  | false => match cs with
    | c :: _ => (match c with | .agg _ => none | c => some c)
    | [] => none
def q_load (st : St) (agg : Bool) (n : Nat) : PV → Option PV
  | .ref cs => takeV agg n cs
  | .ptr b off => match st b with
    | some (.cells vs) => takeV agg n (vs.drop off)
    | _ => none
  | .eptr b esz i r => match st b with
    | some (.vec e xs _) => if e = esz then (match xs[i]? with | some x => takeV agg n (x.cells.drop r) | none => none) else none
    | _ => none
  | _ => none
def q_pick (c a b : PV) : Option PV := match c with | .bool c => some (match c with | true => a | false => b) | _ => none
def q_nil (p : PV) : Option PV := match p with
  | .ref cs => some (.ref cs) | .ptr b o => some (.ptr b o) | .eptr b e i r => some (.eptr b e i r) | _ => none
def q_fa (off : Nat) (p : PV) : Option PV := match p with
  | .ref cs => if off ≤ cs.length then some (.ref (cs.drop off)) else none
  | .ptr b o => some (.ptr b (o + off))
  | .eptr b e i r => some (.eptr b e i (r + off))
  | _ => none
def q_field (agg : Bool) (n off : Nat) (p : PV) : Option PV := match p with
  | .agg cs => takeV agg n (cs.drop off)
  | _ => none
def q_ia (esz : Nat) (x i : PV) : Option PV := match i with
  | .int _ i => match x with
    | .sl e _ xs => if 0 ≤ i then (if e = esz then (match xs[i.toNat]? with | some x => some (.ref x.cells) | none => none) else none) else none
    | .vsl b n _ => if 0 ≤ i ∧ i.toNat < n then some (.eptr b esz i.toNat 0) else none
    | _ => none
  | _ => none
def q_ix (x i : PV) : Option PV := match x, i with
  | .str s, .int _ i => if 0 ≤ i then (match s[i.toNat]? with | some c => some (.int .u8 c.toNat) | none => none) else none
  | _, _ => none
def q_ex (p : PV) (i : Nat) : Option PV := match p with
  | .tup vs => vs[i]?
  | _ => none
def q_lenS (p : PV) : Option PV := match p with
  | .str s => some (.int .i64 s.length)
  | _ => none
def q_len (p : PV) : Option PV := match p with
  | .sl _ _ xs => some (.int .i64 xs.length)
  | .vsl _ n _ => some (.int .i64 n)
  | _ => none
def q_un (op : UnOp) (p : PV) : Option PV := match op, p with
  | .not, .bool b => some (.bool (!b))
  | .neg, .int k n => some (.int k (k.wrap (0 - n)))
  | _, _ => none
def q_int (op : BinOp) (k : IntKind) (a b : Int) : Option PV := match op with
  | .add => some (.int k (k.wrap (a + b)))
  | .sub => some (.int k (k.wrap (a - b)))
  | .mul => some (.int k (k.wrap (a * b)))
  | .quo => if b = 0 then none else some (.int k (k.wrap (a.tdiv b)))
  | .rem => if b = 0 then none else some (.int k (a.tmod b))
  | .eql => some (.bool (decide (a = b)))
  | .neq => some (.bool (decide (a ≠ b)))
  | .lss => some (.bool (decide (a < b)))
  | .leq => some (.bool (decide (a ≤ b)))
  | .gtr => some (.bool (decide (b < a)))
  | .geq => some (.bool (decide (b ≤ a)))
  | _ => none
def q_str (op : BinOp) (a b : List UInt8) : Option PV := match op with
  | .add => if a.length + b.length ≤ 9223372036854775807 then some (.str (a ++ b)) else none
  | .eql => some (.bool (decide (a = b)))
  | .neq => some (.bool (decide (a ≠ b)))
  | _ => none
def q_bin (op : BinOp) (x y : PV) : Option PV := match x, y with
  | .int k a, .int k' b => if k = k' then q_int op k a b else none
  | .str a, .str b => q_str op a b
  | _, _ => none
def q_beq (op : BinOp) (x y : PV) : Option PV := match x, y with
  | .bool a, .bool b => (match op with | .eql => some (.bool (a == b)) | .neq => some (.bool (a != b)) | _ => none)
  | _, _ => none
def q_conv (k : IntKind) (p : PV) : Option PV := match p with
  | .int _ n => some (.int k (k.wrap n))
  | _ => none
def q_cstr (p : PV) : Option PV := match p with
  | .str s => some (.str s)
  | _ => none
def bytesOf : List PV → Option (List UInt8)
  | [] => some []
  | p :: r => match p with
    | .int k n => if k = .u8 then (match bytesOf r with | some s => some (UInt8.ofNat n.toNat :: s) | none => none) else none
    | _ => none
def q_bstr (p : PV) : Option PV := match p with
  | .sl _ _ xs => match bytesOf xs with | some s => some (.str s) | none => none
  | _ => none
def q_min (x y : PV) : Option PV := match x, y with
  | .int k a, .int _ b => some (.int k (if b < a then b else a))
  | _, _ => none
def q_max (x y : PV) : Option PV := match x, y with
  | .int k a, .int _ b => some (.int k (if b > a then b else a))
  | _, _ => none
def keyEq : PV → PV → Option Bool
  | .int k a, .int k' b => if k = k' then some (decide (a = b)) else none
  | .str a, .str b => some (decide (a = b))
  | _, _ => none
def keyM : Shp → PV → Bool
  | .int k, .int k' _ => k == k'
  | .string, .str _ => true
  | _, _ => false
def findP (k : PV) : List (PV × PV) → Option (Option PV)
  | [] => some none
  | kv :: r => match keyEq k kv.1 with
    | some true => some (some kv.2)
    | some false => findP k r
    | none => none
def putP (k x : PV) : List (PV × PV) → Option (List (PV × PV))
  | [] => some [(k, x)]
  | kv :: r => match keyEq k kv.1 with
    | some true => some ((kv.1, x) :: r)
    | some false => (match putP k x r with | some r => some (kv :: r) | none => none)
    | none => none
def lookR (z : PV) (ok : Bool) (r : Option PV) : PV :=
  match ok with
  | true => .tup [r.getD z, .bool r.isSome]
  | false => r.getD z
def q_lookup (st : St) (ks : Shp) (z : PV) (ok : Bool) (m k : PV) : Option PV :=
  if keyM ks k = true ∧ z.isJunk = false then
    match m with
    | .map b => (match st b with
      | some (.map kvs) => (match findP k kvs with | some r => some (lookR z ok r) | none => none)
      | _ => none)
    | .nilmap => some (lookR z ok none)
    | _ => none
  else none
def optI : Option PV → Nat → Option Nat
  | none, d => some d
  | some (.int _ i), _ => if 0 ≤ i then some i.toNat else none
  | some _, _ => none
def q_slice (x : PV) (lo hi mx : Option PV) : Option PV := match x with
  | .str s => match mx with
    | none => match optI hi s.length with
      | some h => match optI lo 0 with
        | some l => if l ≤ h ∧ h ≤ s.length then some (.str ((s.take h).drop l)) else none
        | none => none
      | none => none
    | some _ => none
  | .sl e full xs => match optI hi xs.length with
    | some h => match optI lo 0 with
      | some l => match mx with
        | none => if l ≤ h ∧ h ≤ xs.length then some (.sl e (full && decide (h = xs.length)) ((xs.take h).drop l)) else none
        | some m => match optI (some m) 0 with
          | some m => if hi.isSome = true ∧ l ≤ h ∧ h = m ∧ m ≤ xs.length then some (.sl e true ((xs.take h).drop l)) else none
          | none => none
      | none => none
    | none => none
  | _ => none
def q_iface (t : TypeId) (p : PV) : Option PV := if p.isJunk then none else some (.iface t p)
def q_func (f : Fn) (first caps : List PV) : Option PV := some (.fn f first caps)
def fillP (place : Nat → Option (Nat × Nat)) (cells : List PV) : List (Nat × PV) → Option (List PV)
  | [] => some cells
  | (i, p) :: rest => match place i with
    | none => none
    | some (off, n) => if p.ncells = n ∧ off + n ≤ cells.length ∧ p.cells.all PV.cellOK = true then fillP place (cells.take off ++ p.cells ++ cells.drop (off + n)) rest else none
def fillL (cells : List PV) : List (Nat × Nat × PV) → Option (List PV)
  | [] => some cells
  | (off, n, p) :: rest => if p.ncells = n ∧ off + n ≤ cells.length ∧ p.cells.all PV.cellOK = true then fillL (cells.take off ++ p.cells ++ cells.drop (off + n)) rest else none
def q_struct (zero : List PV) (ps : List (Nat × Nat × PV)) : Option PV := match fillL zero ps with
  | some cs => some (.agg cs)
  | none => none
def q_build (place : Nat → Option (Nat × Nat)) (zero : List PV) (ps : List (Nat × PV)) : Option PV := match fillP place zero ps with
  | some cs => some (.agg cs)
  | none => none
def q_lit (esz len i : Nat) (acc : List PV) : List (Nat × PV) → Option PV
  | [] => if i = len then some (.sl esz true acc.reverse) else none
  | (j, p) :: rest => if j = i ∧ p.ncells = esz ∧ p.cells.all PV.cellOK = true then q_lit esz len (i + 1) (p :: acc) rest else none

def q_sliceS (x : PV) (lo hi mx : Option PV) : Option PV := match x with
  | .str s => q_slice (.str s) lo hi mx
  | _ => none
def q_sliceE (n : Nat) (x : PV) (lo hi mx : Option PV) : Option PV := match x with
  | .sl e f xs => if e = n then q_slice (.sl e f xs) lo hi mx else none
  | .vsl b m c => match mx with
    | none => match optI hi m with
      | some h => match optI lo 0 with
        | some l => if l = 0 ∧ h ≤ m ∧ m ≤ c then some (.vsl b h c) else none
        | none => none
      | none => none
    | some _ => none
  | _ => none
def q_sliceT (T : TypeId → Option TD) (t : TypeId) (x : PV) (lo hi mx : Option PV) : Option PV :=
  match T t with
  | none => none
  | some d => match d.shape with
    | .string => q_sliceS x lo hi mx
    | .slice e => (match T e with | some de => q_sliceE de.size x lo hi mx | none => none)
    | _ => none

def placesOf (T : TypeId → Option TD) (fs : List (Nat × TypeId)) (i : Nat) : Option (Nat × Nat) :=
  match fs[i]? with
  | some x => (match T x.2 with | some df => some (x.1, df.size) | none => none)
  | none => none

def opQ (T : TypeId → Option TD) (st : St) (ρ : Operand → PV) : Op → Option PV
  | .move x => some (ρ x)
  | .assign x => some (ρ x)
  | .pick c a b => q_pick (ρ c) (ρ a) (ρ b)
  | .load t a => match T t with | some d => q_load st d.shape.agg d.size (ρ a) | none => none
  | .nilCheck x => q_nil (ρ x)
  | .binOp op t x y _ => match T t with | some d => (match d.shape with | .bool => q_beq op (ρ x) (ρ y) | .int _ => q_bin op (ρ x) (ρ y) | .string => q_bin op (ρ x) (ρ y) | _ => none) | none => none
  | .unOp op _ x => q_un op (ρ x)
  | .convert src dst x => (match T src with
    | some ds => (match T dst with
      | some d => (match d.shape with
        | .int k => q_conv k (ρ x)
        | .string => (match ds.shape with
          | .slice e => (match T e with | some de => (match de.shape with | .int .u8 => q_bstr (ρ x) | _ => none) | none => none)
          | _ => q_cstr (ρ x))
        | _ => none)
      | none => none)
    | none => none)
  | .makeInterface t x => match T t with | some d => (match d.shape with | .iface => none | _ => q_iface t (ρ x)) | none => none
  | .makeFunc f first caps => q_func f (first.toList.map ρ) (caps.toList.map ρ)
  | .slice t x lo hi mx => q_sliceT T t (ρ x) (lo.map ρ) (hi.map ρ) (mx.map ρ)
  | .fieldAddr s x f => match T s with
    | some d => (match d.shape with
      | .struct fs => (match fs[f]? with
        | some (off, ft) => (match T ft with | some df => if df.size = 0 then none else q_fa off (ρ x) | none => none)
        | none => none)
      | _ => none)
    | none => none
  | .field t x f => match T t with
    | some d => (match d.shape with
      | .struct fs => (match fs[f]? with
        | some (off, ft) => (match T ft with | some df => q_field df.shape.agg df.size off (ρ x) | none => none)
        | none => none)
      | _ => none)
    | none => none
  | .indexAddr t x i => match T t with
    | some d => (match d.shape with | .slice e => (match T e with | some de => q_ia de.size (ρ x) (ρ i) | none => none) | _ => none)
    | none => none
  | .index t x i => match T t with
    | some d => (match d.shape with | .string => q_ix (ρ x) (ρ i) | _ => none)
    | none => none
  | .extract t i => q_ex (ρ t) i
  | .lookup t m k ok => match T t with
    | some d => (match d.shape with
      | .map kt et => (match T kt with
        | some dk => (match T et with | some de => q_lookup st dk.shape (elZ de) ok (ρ m) (ρ k) | none => none)
        | none => none)
      | _ => none)
    | none => none
  | .build t parts => match T t with
    | some d => (match d.shape with
      | .struct fs => if fs.all (fun x => (T x.2).isSome) = false then none else q_build (placesOf T fs) d.zero (parts.toList.map fun x => (x.1, ρ x.2))
      | _ => none)
    | none => none
  | .buildSlice t len parts => match T t with
    | some d => (match d.shape with | .slice e => (match T e with | some de => if de.size = 0 then none else if 16777216 < len * de.size then none else q_lit de.size len 0 [] (parts.toList.map fun x => (x.1, ρ x.2)) | none => none) | _ => none)
    | none => none
  | .call c => match c.callee with
    | .builtin .len => (match c.args.toList with | [x] => (match c.argTypes.toList with | [t] => (match T t with | some d => (match d.shape with | .string => q_lenS (ρ x) | .slice _ => q_len (ρ x) | _ => none) | none => none) | _ => none) | _ => none)
    | .builtin .min => (match c.args.toList with | [x, y] => q_min (ρ x) (ρ y) | _ => none)
    | .builtin .max => (match c.args.toList with | [x, y] => q_max (ρ x) (ρ y) | _ => none)
    | _ => none
  | _ => none

class OwnLit where
  lit : Bool
def isQ [own : OwnLit] : Op → Bool
  | .buildSlice .. => !own.lit
  | .move _ | .assign _ | .pick .. | .load .. | .nilCheck _ | .binOp .. | .unOp .. | .convert .. | .makeInterface .. | .makeFunc .. | .slice .. | .fieldAddr .. | .field .. | .indexAddr .. | .index .. | .extract ..
  | .build .. | .lookup .. => true
  | .call c => (match c.callee with | .builtin .len => true | .builtin .min => true | .builtin .max => true | _ => false)
  | _ => false
def looksSt : Op → Bool
  | .load .. => true
  | .lookup .. => true
  | _ => false

def setRange (vs : List PV) (off : Nat) (us : List PV) : List PV := vs.take off ++ us ++ vs.drop (off + us.length)
def e_store (st : St) (n : Nat) (a x : PV) (K : St → Prop) : Prop :=
  if x.cells.all PV.cellOK = true ∧ x.ncells = n ∧ x.isJunk = false then
    match a with
    | .ptr b off => (match st b with
      | some (.cells vs) => if off + n ≤ vs.length then K (upd st b (.cells (setRange vs off x.cells))) else False
      | _ => False)
    | .eptr b esz i r => (match st b with
      | some (.vec e xs cap) => if e = esz then (match xs[i]? with
          | some (.agg cs) => if r + n ≤ cs.length then K (upd st b (.vec e (xs.set i (.agg (setRange cs r x.cells))) cap)) else False
          | some _ => if r = 0 ∧ n = 1 ∧ x.isAgg = false then K (upd st b (.vec e (xs.set i x) cap)) else False
          | none => False) else False
      | _ => False)
    | _ => False
  else False
def e_alloc (st : St) (zero : List PV) (K : PV → St → Prop) : Prop := ∀ b, st b = none → K (.ptr b 0) (upd st b (.cells zero))
def e_box (st : St) (p : PV) (K : PV → St → Prop) : Prop := if p.isJunk then False else (K (.ref p.cells) st ∨ ∀ b, st b = none → K (.ptr b 0) (upd st b (.cells p.cells)))

def e_make (st : St) (esz bytes : Nat) (z l c : PV) (K : PV → St → Prop) : Prop :=
  z.ncells = esz ∧ z.cells.all PV.cellOK = true ∧ 0 < esz ∧
  (match l with
   | .int _ l => (match c with
     | .int _ c => 0 ≤ l ∧ l ≤ c ∧ (bytes : Int) * c ≤ 281474976710656 ∧ c ≤ 281474976710656 ∧ (∀ b, st b = none → K (.vsl b l.toNat c.toNat) (upd st b (.vec esz (List.replicate l.toNat z) c.toNat)))
     | _ => False)
   | _ => False)
def e_mkmap (st : St) (K : PV → St → Prop) : Prop := ∀ b, st b = none → K (.map b) (upd st b (.map []))
def e_mapset (st : St) (ks : Shp) (m k x : PV) (K : St → Prop) : Prop :=
  if keyM ks k = true ∧ x.isJunk = false then
    match m with
    | .map b => (match st b with
      | some (.map kvs) => (match putP k x kvs with | some kvs' => K (upd st b (.map kvs')) | none => False)
      | _ => False)
    | _ => False
  else False
def elems (st : St) (esz : Nat) : PV → Option (List PV)
  | .sl e _ xs => if e = esz ∨ xs = [] then some xs else none
  | .vsl b n c => match st b with
    | some (.vec e xs c') => if e = esz ∧ n ≤ xs.length ∧ c' = c then some (xs.take n) else none
    | _ => none
  | _ => none
def e_grown (st : St) (esz : Nat) (zs : List PV) (old : Option Nat) (K : PV → St → Prop) : Prop :=
  (∀ b cap, (old = some b ∨ st b = none) → zs.length ≤ cap → K (.vsl b zs.length cap) (upd (match old with | some b0 => del st b0 | none => st) b (.vec esz zs cap))) ∨
  K (.sl esz false zs) (match old with | some b0 => del st b0 | none => st)
def e_append (st : St) (esz bytes : Nat) (s y : PV) (K : PV → St → Prop) : Prop :=
  match elems st esz s, elems st esz y with
  | some xs, some ys =>
    (xs.length + ys.length) * bytes ≤ 140737488355328 ∧
    (match s with
     | .sl _ full _ => full = true ∧ (ys = [] → K s st) ∧ (ys ≠ [] → e_grown st esz (xs ++ ys) none K)
     | .vsl b n cap => e_grown st esz (xs ++ ys) (some b) K
     | _ => False)
  | _, _ => False

def callK (P : Program) (g : FuncId) (args : List PV) (st : St) (K Kp : PV → St → Prop) : Prop :=
  HCalls P g args st (fun r st' => match r with | .ret p => K p st' | .pan p => Kp p st')
def callY (P : Program) (l : Nat) (args : List PV) (st : St) (K Kp : PV → St → Prop) : Prop :=
  ∀ w vals, Good w st → ROs (Cw w st) args vals → YieldAt Fence.wide 0 P l vals.toArray w (Post (fun r st' => match r with | .ret p => K p st' | .pan p => Kp p st') w st)
def e_call (P : Program) (st : St) (f : PV) (args : List PV) (K Kp : PV → St → Prop) : Prop :=
  match f with
  | .fn (.func g) first caps => callK P g (first ++ args ++ caps) st K Kp
  | .fn (.yield l) first caps => (match first with | [] => (match caps with | [] => callY P l args st K Kp | _ => False) | _ => False)
  | _ => False

def e_panic (x : PV) (st : St) (Kp : PV → St → Prop) : Prop := match x with | .iface t p => Kp (.iface t p) st | _ => False

def e_lit (st : St) (esz len : Nat) (ps : List (Nat × PV)) (K : PV → St → Prop) : Prop :=
  match q_lit esz len 0 [] ps with
  | some (.sl e f xs) => (0 < len ∧ ∀ b, st b = none → K (.vsl b len len) (upd st b (.vec esz xs len))) ∨ K (.sl e f xs) st
  | _ => False

def hEff (P : Program) (T : TypeId → Option TD) (st : St) (ρ : Operand → PV) (o : Op) (K Kp : PV → St → Prop) : Prop :=
  match o with
  | .alloc t => (match T t with | some d => e_alloc st d.zero K | none => False)
  | .box t x => e_box st (ρ x) K
  | .store t a x => (match T t with | some d => e_store st d.size (ρ a) (ρ x) (fun st' => K (.tup []) st') | none => False)
  | .panic x => e_panic (ρ x) st Kp
  | .makeMap t r => (match r with | none => e_mkmap st K | some _ => False)
  | .mapUpdate t m k x => (match T t with | some d => (match d.shape with | .map kt _ => (match T kt with | some dk => e_mapset st dk.shape (ρ m) (ρ k) (ρ x) (fun st' => K (.tup []) st') | none => False) | _ => False) | none => False)
  | .insert t m k x => (match T t with | some d => (match d.shape with | .map kt _ => (match T kt with | some dk => e_mapset st dk.shape (ρ m) (ρ k) (ρ x) (fun st' => K (.tup []) st') | none => False) | _ => False) | none => False)
  | .makeSlice t l c => (match T t with | some d => (match d.shape with | .slice e => (match T e with | some de => e_make st de.size de.bytes (elZ de) (ρ l) (ρ c) K | none => False) | _ => False) | none => False)
  | .buildSlice t len parts => (match T t with | some d => (match d.shape with | .slice e => (match T e with | some de => if de.size = 0 then False else if 16777216 < len * de.size then False else e_lit st de.size len (parts.toList.map fun x => (x.1, ρ x.2)) K | none => False) | _ => False) | none => False)
  | .call c => (match c.callee with
    | .value f => e_call P st (ρ f) (c.args.toList.map ρ) K Kp
    | .builtin .append => (match c.args.toList with
      | [s, y] => (match c.argTypes.toList with
        | [t, u] => if t = u then (match T t with | some d => (match d.shape with | .slice e => (match T e with | some de => if de.size = 0 ∨ de.bytes = 0 then False else e_append st de.size de.bytes (ρ s) (ρ y) K | none => False) | _ => False) | none => False) else False
        | _ => False)
      | _ => False)
    | _ => False)
  | _ => False

def maskOf (o : Oper) (acc : List Nat) : Nat :=
  o.after.toList.foldl (fun s e => if Region.binds .any e then s ||| 2 ^ e.on ||| acc.getD e.on 0 else s) 0
def masks (ops : List Oper) : List Nat := ops.foldl (fun acc o => acc ++ [maskOf o acc]) []

def canonGo [own : OwnLit] (ops : List Oper) (ms : List Nat) : Nat → Nat → List Nat → List Nat
  | 0, _, acc => acc.reverse
  | fuel + 1, done, acc =>
    match (List.range ops.length).find? (fun i => !done.testBit i && (ms.getD i 0 &&& done == ms.getD i 0) && ((ops[i]?).map (fun o => isQ o.op)).getD false) with
    | some i => canonGo ops ms fuel (done ||| 2 ^ i) (i :: acc)
    | none => match (List.range ops.length).find? (fun i => !done.testBit i && (ms.getD i 0 &&& done == ms.getD i 0)) with
      | some i => canonGo ops ms fuel (done ||| 2 ^ i) (i :: acc)
      | none => acc.reverse
def canon [own : OwnLit] (ops : List Oper) : List Nat := canonGo ops (masks ops) ops.length 0 []

def reads (l : List Oper) (o : Oper) : List Nat :=
  (o.op.operands.toList.filterMap fun | .tmp t => some t | _ => none) ++ (match o.guard with | some (j, _) => (match (l[j]?).bind (·.dst) with | some g => [g] | none => []) | none => [])
def nodupB : List Nat → Bool
  | [] => true
  | x :: r => !r.contains x && nodupB r

def br (b : Bool) (x y : Prop) : Prop := match b with | true => x | false => y
def cb (p : PV) (k : Bool → Prop) : Prop := match p with | .bool b => k b | _ => False
def gb (gd : Bool) (p : PV) (k : Bool → Prop) (s : Prop) : Prop := match gd with
  | false => cb p k
  | true => match p with | .bool b => k b | .tup [] => s | _ => False
def stabK (m : Nat) : List (Nat × (St → Prop)) → St → Prop → Prop
  | [], _, K => K
  | (j, f) :: r, st, K => if m.testBit j then stabK m r st K else (f st ∧ stabK m r st K)

def putE (env : List PV) (d : Option Nat) (p : PV) : List PV := match d with | some d => env.set d p | none => env

section
variable [own : OwnLit] (P : Program) (T : TypeId → Option TD)
def hRun (draw : Bool) (i m : Nat) (o : Oper) (pend : List (Nat × (St → Prop))) (env : List PV) (st : St) (Kp : PV → St → Prop)
    (next : List (Nat × (St → Prop)) → List PV → St → Prop) : Prop :=
  if isQ o.op then
    qb (opQ T st (evO env) o.op) (fun p =>
      next (if draw && looksSt o.op then (i, fun st' => opQ T st' (evO env) o.op = some p) :: pend else pend) (putE env o.dst p) st)
  else
    hEff P T st (evO env) o.op
      (fun p st' => if draw then stabK m pend st' (next pend (putE env o.dst p) st') else next pend (putE env o.dst p) st') Kp

def forceL {α : Type} {β : Sort _} : List α → (List α → β) → β
  | [], K => K []
  | x :: xs, K => forceL xs fun ys => K (x :: ys)
omit own in
theorem forceL_eq {α : Type} {β : Sort _} : ∀ (l : List α) (K : List α → β), forceL l K = K l
  | [], _ => rfl
  | x :: xs, K => forceL_eq xs _
def addD (d : Option Nat) (sk : List Nat) : List Nat := match d with | some d => d :: sk | none => sk
def hStep (draw : Bool) (ms : List Nat) (dsts : List (Option Nat)) (sk : List Nat) (i : Nat) (o : Oper) (pend : List (Nat × (St → Prop))) (env0 : List PV) (st : St) (Kp : PV → St → Prop)
    (next : List Nat → List (Nat × (St → Prop)) → List PV → St → Prop) : Prop := forceL env0 fun env =>
    match o.guard with
    | none => hRun P T draw i (ms.getD i 0) o pend env st Kp (fun pend' env' st' => next sk pend' env' st')
    | some (j, want) => match dsts.getD j none with
      | none => False
      | some g => gb (sk.contains g) (env.getD g .junk)
          (fun b => br b
            (br want (hRun P T draw i (ms.getD i 0) o pend (env.set g (.bool true)) st Kp (fun pend' env' st' => next sk pend' env' st'))
              (next (addD o.dst sk) pend (putE (env.set g (.bool true)) o.dst (.tup [])) st))
            (br want (next (addD o.dst sk) pend (putE (env.set g (.bool false)) o.dst (.tup [])) st)
              (hRun P T draw i (ms.getD i 0) o pend (env.set g (.bool false)) st Kp (fun pend' env' st' => next sk pend' env' st'))))
          (next (addD o.dst sk) pend (putE env o.dst (.tup [])) st)
def hSeq (dsts : List (Option Nat)) : List Nat → List (Nat × Oper) → List PV → St → (List PV → St → Prop) → (PV → St → Prop) → Prop
  | _, [], env, st, K, _ => K env st
  | sk, (i, o) :: rest, env, st, K, Kp => hStep P T false [] dsts sk i o [] env st Kp (fun sk' _ env' st' => hSeq dsts sk' rest env' st' K Kp)
def nextQ (ops : List Oper) (ms : List Nat) (done : Nat) : Option Nat :=
  (List.range ops.length).find? (fun i => !done.testBit i && (ms.getD i 0 &&& done == ms.getD i 0) && ((ops[i]?).map (fun o => isQ o.op)).getD false)
def readyE (ops : List Oper) (ms : List Nat) (done : Nat) : List Nat :=
  (List.range ops.length).filter (fun i => !done.testBit i && (ms.getD i 0 &&& done == ms.getD i 0))
def allP {α : Type} : List α → (α → Prop) → Prop
  | [], _ => True
  | x :: r, f => match r with | [] => f x | _ :: _ => f x ∧ allP r f
omit own in
theorem allP_mem {α : Type} : ∀ {l : List α} {f : α → Prop}, allP l f → ∀ x ∈ l, f x
  | [], _, _, _, h => by cases h
  | [x], f, h, y, hy => by cases hy with | head => exact h | tail _ h => cases h
  | x :: z :: r, f, h, y, hy => by
    cases hy with
    | head => exact h.1
    | tail _ hy => exact allP_mem (l := z :: r) h.2 y hy
def hDraw (ops : List Oper) (ms : List Nat) (dsts : List (Option Nat)) : Nat → List Nat → Nat → List (Nat × (St → Prop)) → List PV → St → (List PV → St → Prop) → (PV → St → Prop) → Prop
  | 0, _, _, _, env, st, K, _ => K env st
  | fuel + 1, sk, done, pend, env, st, K, Kp => match nextQ ops ms done with
    | some i => match ops[i]? with
      | some o => hStep P T true ms dsts sk i o pend env st Kp (fun sk' pend' env' st' => hDraw ops ms dsts fuel sk' (done ||| 2 ^ i) pend' env' st' K Kp)
      | none => False
    | none => allP (readyE ops ms done) (fun i => match ops[i]? with
      | some o => hStep P T true ms dsts sk i o pend env st Kp (fun sk' pend' env' st' => hDraw ops ms dsts fuel sk' (done ||| 2 ^ i) pend' env' st' K Kp)
      | none => False)
def hDrawE (ops : List Oper) (fuel : Nat) (done : Nat) (pend : List (Nat × (St → Prop))) (env : List PV) (st : St) (K : List PV → St → Prop) (Kp : PV → St → Prop) : Prop :=
  ∃ sk, hDraw P T ops (masks ops) (ops.map (·.dst)) fuel sk done pend env st K Kp

def drawOK (l : List Oper) : Bool :=
  let ms := masks l
  let n := l.length
  let idx := l.zipIdx
  let c := canon l
  let before (i j : Nat) : Bool := (ms.getD j 0).testBit i
  idx.all (fun x => idx.all (fun y =>
    (x.2 == y.2 || x.1.dst.isNone || !(x.1.dst == y.1.dst)) &&
    (match x.1.dst with | some d => !(reads l y.1).contains d || (x.2 != y.2 && (before x.2 y.2 || before y.2 x.2)) | none => true))) &&
  (c.length == n && nodupB c && c.all (· < n)) &&
  l.all (fun o => o.after.toList.all fun e => e.on < n) &&
  c.zipIdx.all (fun x => (List.range n).all fun i => !before i x.1 || (c.take x.2).contains i)

def hRegion (ops : Array Oper) (draw : Bool) (env : List PV) (st : St) (K : List PV → St → Prop) (Kp : PV → St → Prop) : Prop :=
  let l := ops.toList
  if draw then
    if drawOK l then hDraw P T l (masks l) (l.map (·.dst)) l.length [] 0 [] env st K Kp else False
  else hSeq P T (l.map (·.dst)) [] (l.zipIdx.map fun x => (x.2, x.1)) env st K Kp

inductive HExit where
  | normal
  | exit (id : Nat)
  | goto (l : Nat)
  | ret
  | pan (p : PV)

def hFix (F : List PV → St → (List PV → St → Prop) → Prop) (ls : List PV) (st : St) : Prop :=
  ∀ X : List PV → St → Prop,
    (∀ ls st Y, (∀ l s, Y l s → X l s) → F ls st Y → X ls st) →
    (∀ ls st ls' st', Conv ls st ls' st' → X ls' st' → X ls st) → X ls st

def modsOps (ops : List Oper) : List Nat := ops.filterMap (·.dst)
def firstRegion : Code → Option Nat
  | .region id _ _ => some id
  | .seq a b => match firstRegion a with | some r => some r | none => firstRegion b
  | .cond _ x y => match firstRegion x with | some r => some r | none => firstRegion y
  | .block _ c => firstRegion c
  | .loop c => firstRegion c
  | .scope c => firstRegion c
  | .rangeFunc _ _ a c => match firstRegion a with | some r => some r | none => firstRegion c
  | _ => none
def lookO (ann : List (Nat × List Nat)) (k : Nat) : Option (List Nat) := match ann with
  | [] => none
  | (j, l) :: r => if j = k then some l else lookO r k
def look (ann : List (Nat × List Nat)) (k : Option Nat) : List Nat := match k with
  | none => []
  | some k => match lookO ann (4 * k) with | some l => l | none => []
def more (ann : List (Nat × List Nat)) (k : Nat) : List Nat := match lookO ann k with | some l => l | none => []
def mods (ann : List (Nat × List Nat)) : Code → List Nat
  | .region id ops _ => modsOps ops.toList ++ more ann (4 * id + 1)
  | .seq a b => mods ann a ++ mods ann b
  | .cond _ x y => mods ann x ++ mods ann y ++ more ann (4 * (match firstRegion (.seq x y) with | some r => r | none => 0) + 2)
  | .block id c => mods ann c ++ more ann (4 * id + 3)
  | .loop c => mods ann c
  | .scope c => mods ann c
  | .rangeFunc _ ps a c => ps.toList ++ mods ann a ++ mods ann c
  | _ => []
def maskL (ms : List Nat) : Nat := ms.foldl (fun s t => s ||| 2 ^ t) 0
def junkGo (m : Nat) : Nat → List PV → List PV
  | _, [] => []
  | i, p :: ps => (match m.testBit i with | true => .junk | false => p) :: junkGo m (i + 1) ps
def junkAll (env : List PV) (ms : List Nat) : List PV := junkGo (maskL ms) 0 env
def fillAll (env : List PV) (ls : List PV) (i : Nat) : List Nat → List PV
  | [] => env
  | t :: ts => fillAll (env.set t (ls.getD i .junk)) ls (i + 1) ts
def refill (env : List PV) (ms live : List Nat) (ls : List PV) : List PV := fillAll (junkAll env ms) ls 0 live
def pickAll (env : List PV) (live : List Nat) : List PV := live.map fun t => env.getD t .junk
def okLive (live ms : List Nat) (n : Nat) : Bool := nodupB live && live.all (fun t => decide (t < n) && ms.contains t)

def hJ (B : List PV → St → Prop) (F : (List PV → St → Prop) → Prop) : Prop := ∀ J : List PV → St → Prop, (∀ ls st, B ls st → J ls st) →
  (∀ ls st ls' st', Conv ls st ls' st' → J ls' st' → J ls st) → F J
def joinAt (o : Option (List Nat)) (ms : List Nat) (env : List PV) (Q : HExit → List PV → St → Prop) (run : (HExit → List PV → St → Prop) → Prop) : Prop :=
  match o with
  | none => run Q
  | some live => if okLive live ms env.length then
      hJ (fun ls st => Q .normal (refill env ms live ls) st) (fun J => run (fun e env' st' => match e with
        | .normal => J (pickAll env' live) st'
        | .exit id => Q (.exit id) env' st' | .goto l => Q (.goto l) env' st' | .ret => Q .ret env' st' | .pan p => Q (.pan p) env' st'))
    else False

def noRF : Code → Bool
  | .seq a b => noRF a && noRF b
  | .cond _ a b => noRF a && noRF b
  | .block _ c => noRF c
  | .loop c => noRF c
  | .scope c => noRF c
  | .rangeFunc .. => false
  | _ => true
def setP (env : List PV) : List Nat → Nat → List PV → List PV
  | [], _, _ => env
  | t :: ts, i, args => setP (env.set t (args.getD i .junk)) ts (i + 1) args
def jumps : Code → List HExit
  | .exit id => [.exit id]
  | .goto l => [.goto l]
  | .ret => [.ret]
  | .seq a b => jumps a ++ jumps b
  | .cond _ a b => jumps a ++ jumps b
  | .block _ c => jumps c
  | .loop c => jumps c
  | .scope c => jumps c
  | _ => []
def orJ : List (HExit × (St → Prop)) → (HExit × (St → Prop) → Prop) → Prop
  | [], _ => False
  | e :: r, f => f e ∨ orJ r f
def endJ (s : St) (l : Nat) (env : List PV) (r1 r2 : Loop) (r3 : HExit → Loop) (K : PV → St → Prop) (e : HExit) : Prop := s l = some (.loop env r2) ∧ (match e with
  | .normal => K (.bool true) (upd s l (.loop env r1))
  | .pan _ => False
  | e => K (.bool false) (upd s l (.loop env (r3 e))))
def beginJ (l : Nat) (env : List PV) (r1 r2 : Loop) (s : St) (k : St → Prop) : Prop := s l = some (.loop env r1) ∧ k (upd s l (.loop env r2))
def hRange (f : PV) (st : St) (round : List PV → St → (St → (St → Prop) → Prop) → (HExit → St → Prop) → Prop) (Qn : St → Prop) (Qj : List (HExit × (St → Prop))) : Prop :=
  match f with
  | .fn (.func g) first caps => ∀ (l : Nat) (env : List PV) (r1 r2 : Loop) (r3 : HExit → Loop), st l = none →
      (∀ args s K Kp, s l = some (.loop env r1) → round args s (beginJ l env r1 r2) (fun e s' => endJ s' l env r1 r2 r3 K e) → callY P l args s K Kp) →
      HCalls P g (first ++ [.fn (.yield l) [] []] ++ caps) (upd st l (.loop env r1)) (fun r s => match r with
        | .ret _ => (s l = some (.loop env r1) ∧ Qn (del s l)) ∨ orJ Qj (fun e => s l = some (.loop env (r3 e.1)) ∧ e.2 (del s l))
        | .pan _ => False)
  | _ => False

def hCode (ann : List (Nat × List Nat)) : Code → List PV → St → (HExit → List PV → St → Prop) → Prop
  | .skip, env, st, Q => Q .normal env st
  | .label _, env, st, Q => Q .normal env st
  | .region id ops draw, env, st, Q => joinAt (lookO ann (4 * id + 1)) (modsOps ops.toList ++ more ann (4 * id + 1)) env Q (fun Q => hRegion P T ops draw env st (fun env' st' => Q .normal env' st') (fun p st' => Q (.pan p) env st'))
  | .seq a b, env, st, Q => hCode ann a env st (fun e env' st' => match e with | .normal => hCode ann b env' st' Q | .exit id => Q (.exit id) env' st' | .goto l => Q (.goto l) env' st' | .ret => Q .ret env' st' | .pan p => Q (.pan p) env' st')
  | .cond c x y, env, st, Q => joinAt (lookO ann (4 * (match firstRegion (.seq x y) with | some r => r | none => 0) + 2)) (mods ann x ++ mods ann y ++ more ann (4 * (match firstRegion (.seq x y) with | some r => r | none => 0) + 2)) env Q
      (fun Q => cb (evO env c) (fun b => br b (hCode ann x env st Q) (hCode ann y env st Q)))
  | .block id c, env, st, Q => joinAt (lookO ann (4 * id + 3)) (mods ann c ++ more ann (4 * id + 3)) env Q (fun Q => hCode ann c env st (fun e env' st' => match e with
    | .exit id' => if id' = id then Q .normal env' st' else Q (.exit id') env' st'
    | .normal => Q .normal env' st' | .goto l => Q (.goto l) env' st' | .ret => Q .ret env' st' | .pan p => Q (.pan p) env' st'))
  | .loop c, env, st, Q =>
    if okLive (look ann (firstRegion c)) (mods ann c) env.length then
    hFix (fun ls st1 X => hCode ann c (refill env (mods ann c) (look ann (firstRegion c)) ls) st1 (fun e env' st' => match e with
      | .normal => X (pickAll env' (look ann (firstRegion c))) st'
      | .exit id => Q (.exit id) env' st' | .goto l => Q (.goto l) env' st' | .ret => Q .ret env' st' | .pan p => Q (.pan p) env' st'))
      (pickAll env (look ann (firstRegion c))) st
    else False
  | .exit id, env, st, Q => Q (.exit id) env st
  | .goto l, env, st, Q => Q (.goto l) env st
  | .ret, env, st, Q => Q .ret env st
  | .scope _, _, _, _ => False
  | .rangeFunc g ps a c, env, st, Q =>
    if noRF a = true ∧ noRF c = true then
      hRange P (evO env g) st (fun args s B X => if args.length = ps.size then hCode ann a (setP env ps.toList 0 args) s (fun e env' s' => match e with
        | .normal => B s' (fun s' => hCode ann c env' s' (fun e _ s' => X e s'))
        | _ => False) else False) (fun s => Q .normal env s) ((jumps c).map fun e => (e, fun s => Q e env s))
    else False
  | .refuse _, _, _, _ => False

def hRet (p : PV) (st : St) (R : PV → St → Prop) : Prop := ∃ p' st', Conv [p] st [p'] st' ∧ R p' st'
def retR (R : Res → St → Prop) (p : PV) (st : St) : Prop := hRet p st (fun p' st' => R (.ret p') st')
def panR (R : Res → St → Prop) (p : PV) (st : St) : Prop := hRet p st (fun p' st' => R (.pan p') st')

def resK (st : St) (env : List PV) : List ResultVar → List PV → (List PV → Prop) → Prop
  | [], acc, K => K acc.reverse
  | .tmp t :: r, acc, K => resK st env r (env.getD t .junk :: acc) K
  | .cell a t :: r, acc, K => match T t with
    | some d => qb (q_load st d.shape.agg d.size (env.getD a .junk)) (fun p => resK st env r (p :: acc) K)
    | none => False
def finK (R : Res → St → Prop) (st : St) : List PV → Prop
  | [p] => retR R p st
  | ps => retR R (.tup ps) st
def hFunc (ann : List (Nat × List Nat)) (fn : Func) (args : List PV) (st : St) (R : Res → St → Prop) : Prop :=
  match fn.body with
  | some c => hCode P T ann c (args ++ List.replicate (fn.ntmps - args.length) .junk) st (fun e env st' => match e with
    | .normal => resK T st' env fn.results.toList [] (finK R st')
    | .ret => resK T st' env fn.results.toList [] (finK R st')
    | .pan p => panR R p st'
    | _ => False)
  | none => False
end
end Go.H
namespace Go.H
open Go
set_option linter.unusedVariables false
set_option linter.unusedSectionVars false

section evo
variable {w w' w'' : World} {st st' st'' : St}
theorem Evo.refl (w : World) (st : St) : Evo w st w st := ⟨rfl, rfl, rfl, Nat.le_refl _, fun _ _ h => ⟨rfl, h⟩⟩
theorem Evo.trans (h : Evo w st w' st') (h' : Evo w' st' w'' st'') : Evo w st w'' st'' :=
  ⟨h'.os.trans h.os, h'.tape.trans h.tape, h'.output.trans h.output, Nat.le_trans h.size h'.size, fun b hb hn =>
    ⟨((h'.block b (Nat.lt_of_lt_of_le hb h.size) (h.block b hb hn).2).1).trans (h.block b hb hn).1, (h'.block b (Nat.lt_of_lt_of_le hb h.size) (h.block b hb hn).2).2⟩⟩
theorem Cw.lt {b o : Nat} {v : Value} (h : Cw w st b o v) : b < w.heap.size := World.block_lt_of_cell? w ⟨b, o, none⟩ h.1
theorem Evo.cw (h : Evo w st w' st') (b o : Nat) (v : Value) (hc : Cw w st b o v) : Cw w' st' b o v := by
  obtain ⟨h1, h2⟩ := h.block b hc.lt hc.2
  exact ⟨(World.cell?_of_block (w := w) (a := ⟨b, o, none⟩) h1).trans hc.1, h2⟩
theorem ObjOK.mono {C C' : Nat → Nat → Value → Prop} (hC : ∀ b o v, C b o v → C' b o v) {b : Nat} (hb : w'.heap[b]? = w.heap[b]?) : ∀ {o : HObj}, ObjOK w C b o → ObjOK w' C' b o
  | .cells vs, ⟨arr, t, h1, h2⟩ => ⟨arr, t, hb.trans h1, RCs.mono hC vs _ h2⟩
  | .vec esz xs cap, ⟨arr, t, h1, h2, h3, h4, h5, h6, h7⟩ => ⟨arr, t, hb.trans h1, h2, h3, h4, h5, h6, RXs.mono hC xs _ h7⟩
  | .map kvs, ⟨es, clock, h1, h2⟩ => ⟨es, clock, hb.trans h1, h2.mono hC⟩
  | .loop env r, ⟨h1, h2⟩ => ⟨hb.trans h1, h2.mono hC⟩
theorem ObjOK.lt {C : Nat → Nat → Value → Prop} {b : Nat} : ∀ {o : HObj}, ObjOK w C b o → b < w.heap.size
  | .cells vs, ⟨arr, t, h1, _⟩ => (Array.getElem?_eq_some_iff.1 h1).1
  | .vec esz xs cap, ⟨arr, t, h1, _⟩ => (Array.getElem?_eq_some_iff.1 h1).1
  | .map kvs, ⟨es, clock, h1, _⟩ => (Array.getElem?_eq_some_iff.1 h1).1
  | .loop env r, ⟨h1, _⟩ => (Array.getElem?_eq_some_iff.1 h1).1
theorem Good.lt (h : Good w st) {b : Nat} {o : HObj} (hb : st b = some o) : b < w.heap.size := (h b o hb).lt
theorem Good.fresh (h : Good w st) {b : Nat} (hb : w.heap.size ≤ b) : st b = none := by
  cases hs : st b with
  | none => rfl
  | some o => have := h.lt hs; omega
theorem Good.next (h : Good w st) (he : Evo w st w' st') (hn : ∀ b o, st' b = some o → (st b = some o ∧ w'.heap[b]? = w.heap[b]?) ∨ ObjOK w' (Cw w' st') b o) : Good w' st' := by
  intro b o hb
  rcases hn b o hb with ⟨h1, h2⟩ | h1
  · exact (h b o h1).mono he.cw h2
  · exact h1
theorem Evo.sub (hs : ∀ b o, st' b = some o → st b = some o) : Evo w st w st' :=
  ⟨rfl, rfl, rfl, Nat.le_refl _, fun b _ hn => ⟨rfl, by cases h : st' b with | none => rfl | some o => rw [hs b o h] at hn; cases hn⟩⟩
theorem Good.sub (h : Good w st) (hs : ∀ b o, st' b = some o → st b = some o) : Good w st' :=
  h.next (Evo.sub hs) fun b o hb => .inl ⟨hs b o hb, rfl⟩
theorem Evo.drew (w : World) (st : St) : Evo w st w.drew st := ⟨rfl, rfl, rfl, Nat.le_refl _, fun _ _ h => ⟨rfl, h⟩⟩
theorem Good.drew (h : Good w st) : Good w.drew st := h.next (Evo.drew w st) fun b o hb => .inl ⟨hb, rfl⟩
end evo

theorem upd_same (st : St) (b : Nat) (o : HObj) : upd st b o b = some o := by simp [upd]
theorem upd_ne (st : St) {b c : Nat} (o : HObj) (h : c ≠ b) : upd st b o c = st c := by simp [upd, h]

section alloc
variable {w : World} {st : St}
theorem heap_alloc_lt (w : World) (o : Obj) {k : Nat} (h : k < w.heap.size) : (w.alloc o).heap[k]? = w.heap[k]? := by
  show (w.heap.push o)[k]? = _
  rw [Array.getElem?_push, if_neg (by omega)]
theorem heap_alloc_at (w : World) (o : Obj) : (w.alloc o).heap[w.heap.size]? = some o := by
  show (w.heap.push o)[w.heap.size]? = _
  simp
theorem Evo.alloc (hg : Good w st) (o : Obj) : Evo w st (w.alloc o) st :=
  ⟨rfl, rfl, rfl, by simp, fun b hb hn => ⟨heap_alloc_lt w o hb, hn⟩⟩
theorem Good.alloc (hg : Good w st) (o : Obj) : Good (w.alloc o) st :=
  hg.next (Evo.alloc hg o) fun b ob hb => .inl ⟨hb, heap_alloc_lt w o (hg.lt hb)⟩
theorem Evo.allocOwn (hg : Good w st) (o : Obj) (ho : HObj) : Evo w st (w.alloc o) (upd st w.heap.size ho) :=
  ⟨rfl, rfl, rfl, by simp, fun b hb hn => ⟨heap_alloc_lt w o hb, by rw [upd_ne _ _ (by omega)]; exact hn⟩⟩
theorem Good.allocOwn (hg : Good w st) (o : Obj) (ho : HObj) (hok : ObjOK (w.alloc o) (Cw (w.alloc o) (upd st w.heap.size ho)) w.heap.size ho) : Good (w.alloc o) (upd st w.heap.size ho) :=
  hg.next (Evo.allocOwn hg o ho) fun b ob hb => by
    by_cases e : b = w.heap.size
    · subst e
      rw [upd_same] at hb
      cases hb
      exact .inr hok
    · rw [upd_ne _ _ e] at hb
      exact .inl ⟨hb, heap_alloc_lt w o (hg.lt hb)⟩
end alloc

section own
variable {w : World} {st : St}
theorem Evo.own (hg : Good w st) {w' : World} {b0 : Nat} {o0 ho : HObj} (hb0 : st b0 = some o0) (hos : w'.os = w.os) (ht : w'.tape = w.tape) (hout : w'.output = w.output) (hs : w.heap.size ≤ w'.heap.size)
    (hh : ∀ b, b < w.heap.size → b ≠ b0 → w'.heap[b]? = w.heap[b]?) : Evo w st w' (upd st b0 ho) :=
  ⟨hos, ht, hout, hs, fun b hb hn => by
    have hne : b ≠ b0 := fun e => by rw [e, hb0] at hn; cases hn
    exact ⟨hh b hb hne, by rw [upd_ne _ _ hne]; exact hn⟩⟩
theorem Good.own (hg : Good w st) {w' : World} {b0 : Nat} {o0 ho : HObj} (hb0 : st b0 = some o0) (he : Evo w st w' (upd st b0 ho))
    (hh : ∀ b, b < w.heap.size → b ≠ b0 → w'.heap[b]? = w.heap[b]?) (hok : ObjOK w' (Cw w' (upd st b0 ho)) b0 ho) : Good w' (upd st b0 ho) :=
  hg.next he fun b ob hb => by
    by_cases e : b = b0
    · subst e
      rw [upd_same] at hb
      cases hb
      exact .inr hok
    · rw [upd_ne _ _ e] at hb
      exact .inl ⟨hb, hh b (hg.lt hb) e⟩
end own

theorem Post.mono {R R' : Res → St → Prop} {w : World} {st : St} (h : ∀ r st', R r st' → R' r st') {e : Ending} {w' : World} (hp : Post R w st e w') : Post R' w st e w' := by
  obtain ⟨r, st', h1, h2, h3, h4⟩ := hp
  exact ⟨r, st', h1, h2, h _ _ h3, h4⟩
theorem HCalls.mono {P : Program} {f : FuncId} {args : List PV} {st : St} {R R' : Res → St → Prop} (hc : HCalls P f args st R) (h : ∀ r st', R r st' → R' r st') : HCalls P f args st R' :=
  ⟨hc.1, fun w vals hg hv => (hc.2 w vals hg hv).mono fun _ _ hp => hp.mono h⟩
theorem Post.from {R : Res → St → Prop} {w w' w'' : World} {st st' : St} (he : Evo w st w' st') {e : Ending} (hp : Post R w' st' e w'') : Post R w st e w'' := by
  obtain ⟨r, st'', h1, h2, h3, h4⟩ := hp
  exact ⟨r, st'', he.trans h1, h2, h3, h4⟩
theorem HCalls.conv {P : Program} {f : FuncId} {args args' : List PV} {st st' : St} {R : Res → St → Prop} (hcv : Conv args st args' st') (hc : HCalls P f args' st' R) : HCalls P f args st R :=
  ⟨hc.1, fun w vals hg hv => by
    obtain ⟨hg', he, hvs⟩ := hcv w hg
    exact (hc.2 w vals hg' (hvs vals hv)).mono fun _ _ hp => hp.from he⟩

def zOK1 : PV → Value → Bool
  | .int k n, .int k' n' => k == k' && n == n'
  | .bool b, .bool b' => b == b'
  | .str [], .string s => s.data.toList.isEmpty
  | .nilp, .pointer none => true
  | .sl _ full [], .slice none 0 0 => full
  | .nilfn, .nilFunc => true
  | .niliface, .nilIface => true
  | .nilmap, .map none => true
  | _, _ => false
def zOK : List PV → List Value → Bool
  | [], [] => true
  | p :: ps, v :: vs => zOK1 p v && zOK ps vs
  | _, _ => false
theorem zOK1_sound (C : Nat → Nat → Value → Prop) {p : PV} {v : Value} (h : zOK1 p v = true) : RX C p [v] := by
  unfold zOK1 at h
  split at h <;> simp_all [RX]
  · rename_i s
    cases s with
    | mk d => simp at h; subst h; rfl
  · exact ⟨none, 0, 0, ⟨⟨rfl, rfl, rfl⟩, by simp [maxLen]⟩⟩
theorem zOK_sound (C : Nat → Nat → Value → Prop) : ∀ {ps : List PV} {vs : List Value}, zOK ps vs = true → RCs C ps vs
  | [], [], _ => by simp [RCs]
  | p :: ps, v :: vs, h => by
    simp only [zOK, Bool.and_eq_true] at h
    simp only [RCs]
    exact ⟨v, vs, rfl, zOK1_sound C h.1, zOK_sound C h.2⟩
  | [], _ :: _, h => by simp [zOK] at h
  | _ :: _, [], h => by simp [zOK] at h

def ShpOK : Shp → TypeDesc → Prop
  | .int k, d => d = .int k
  | .bool, d => d = .bool
  | .string, d => d = .string
  | .pointer, d => ∃ e, d = .pointer e
  | .slice e, d => d = .slice e
  | .array n e, d => d = .array n e
  | .map k e, d => d = .map k e
  | .func, d => ∃ a b c, d = .func a b c
  | .iface, d => ∃ m, d = .interface m
  | .struct fs, d => ∃ fields, d = .struct fields ∧ fields.toList.map (fun f => (f.offset, f.type)) = fs
  | .other, d => (∀ k, d ≠ .int k) ∧ d ≠ .bool ∧ d ≠ .string ∧ (∀ e, d ≠ .pointer e) ∧ (∀ e, d ≠ .slice e) ∧ (∀ n e, d ≠ .array n e) ∧ (∀ k e, d ≠ .map k e) ∧ (∀ m, d ≠ .interface m) ∧ (∀ f, d ≠ .struct f)

structure TyFact (P : Program) (t : TypeId) (d : TD) : Prop where
  info : ∃ i, P.info? t = some i ∧ i.size = d.size ∧ i.bytes = d.bytes ∧ ∃ z, i.zero = some z ∧ z.cells.size = d.size ∧ zOK d.zero z.cells.toList = true ∧ vIsAgg z = d.shape.agg
  under : ∃ td, P.underlying t = some td ∧ ShpOK d.shape td
def TyOK (P : Program) (T : TypeId → Option TD) : Prop := ∀ t d, T t = some d → TyFact P t d

section ty
variable {P : Program} {T : TypeId → Option TD} (hT : TyOK P T) {t : TypeId} {d : TD} (h : T t = some d) (w : World)
include hT h
theorem run_sizeOf' : (sizeOf t).run P w = .ok d.size w := by
  obtain ⟨i, hi, hs, _⟩ := (hT t d h).info
  simp [sizeOf, typeInfo, hi, hs]
theorem run_zero' : ∃ z, (zeroValue t).run P w = .ok z w ∧ z.cells.size = d.size ∧ zOK d.zero z.cells.toList = true := by
  obtain ⟨i, hi, hs, hb, z, hz, h1, h2, _⟩ := (hT t d h).info
  exact ⟨z, by simp [zeroValue, typeInfo, hi, hz], h1, h2⟩
theorem run_zeroA' : ∃ z, (zeroValue t).run P w = .ok z w ∧ z.cells.size = d.size ∧ zOK d.zero z.cells.toList = true ∧ vIsAgg z = d.shape.agg := by
  obtain ⟨i, hi, hs, hb, z, hz, h1, h2, h3⟩ := (hT t d h).info
  exact ⟨z, by simp [zeroValue, typeInfo, hi, hz], h1, h2, h3⟩
theorem run_under' : ∃ td, (underlying t).run P w = .ok td w ∧ ShpOK d.shape td := by
  obtain ⟨td, h1, h2⟩ := (hT t d h).under
  exact ⟨td, by simp [underlying, h1], h2⟩
theorem run_isAgg' : (isAgg t).run P w = .ok d.shape.agg w := by
  obtain ⟨td, h1, h2⟩ := run_under' hT h w
  unfold isAgg
  rw [Sem.run_bind, h1]
  cases hs : d.shape <;> rw [hs] at h2 <;> simp only [ShpOK] at h2 <;> simp only [Result.andThen_ok, Shp.agg]
  all_goals first
    | (subst h2; rfl)
    | (obtain ⟨_, _, _, rfl⟩ := h2; rfl)
    | (obtain ⟨_, rfl, _⟩ := h2; rfl)
    | (obtain ⟨_, rfl⟩ := h2; rfl)
    | (obtain ⟨_, _, _, _, _, h3, _, _, h4⟩ := h2
       cases td <;> first | rfl | (exact absurd rfl (h3 _ _)) | (exact absurd rfl (h4 _)))
end ty
end Go.H
namespace Go.H
open Go
set_option linter.unusedVariables false
set_option linter.unusedSectionVars false
set_option linter.unusedSimpArgs false

section forms
variable {C : Nat → Nat → Value → Prop}
theorem cells_of_notAgg {v : Value} (h : vIsAgg v = false) : v.cells = #[v] := by cases v <;> simp_all [vIsAgg, Value.cells]
theorem RV.scalar {p : PV} {v : Value} (h : RV C p v) (hp : p.isAgg = false) : RX C p [v] := by
  have hv : vIsAgg v = false := h.1.symm.trans hp
  have := h.2
  rwa [cells_of_notAgg hv] at this
theorem RX_notAgg {p : PV} {v : Value} (h : RX C p [v]) (hp : p.isAgg = false) : vIsAgg v = false := by
  cases p <;> simp only [RX] at h <;> first
    | exact h.elim
    | (simp only [List.cons.injEq, and_true] at h; subst h; rfl)
    | (obtain ⟨a, n, cap, e, _⟩ := h; simp only [List.cons.injEq, and_true] at e; subst e; rfl)
    | (obtain ⟨b, off, cs, e, _⟩ := h; simp only [List.cons.injEq, and_true] at e; subst e; rfl)
    | (obtain ⟨b, off, e, _⟩ := h; simp only [List.cons.injEq, and_true] at e; subst e; rfl)
    | (obtain ⟨b, e, _⟩ := h; simp only [List.cons.injEq, and_true] at e; subst e; rfl)
    | (simp [PV.isAgg] at hp)
theorem RX.rv {p : PV} {v : Value} (h : RX C p [v]) (hp : p.isAgg = false) : RV C p v := by
  have hv := RX_notAgg h hp
  exact ⟨hp.trans hv.symm, by rw [cells_of_notAgg hv]; exact h⟩
theorem RO.rv {p : PV} {v : Value} (h : RO C p v) (hp : p.isJunk = false) : RV C p v := by
  rcases h with rfl | h
  · simp [PV.isJunk] at hp
  · exact h
theorem RO_int {k : IntKind} {n : Int} {v : Value} (h : RO C (.int k n) v) : v = .int k n := by
  have := (h.rv rfl).scalar rfl
  simpa [RX] using this
theorem RO_bool {b : Bool} {v : Value} (h : RO C (.bool b) v) : v = .bool b := by
  have := (h.rv rfl).scalar rfl
  simpa [RX] using this
theorem RO_str {s : List UInt8} {v : Value} (h : RO C (.str s) v) : v = .string ⟨s.toArray⟩ := by
  have := (h.rv rfl).scalar rfl
  simpa [RX] using this
theorem RO_ptr {b off : Nat} {v : Value} (h : RO C (.ptr b off) v) : v = .pointer (some ⟨b, off, none⟩) := by
  have := (h.rv rfl).scalar rfl
  simpa [RX] using this
theorem RO_eptr {b e i r : Nat} {v : Value} (h : RO C (.eptr b e i r) v) : v = .pointer (some ⟨b, i * e + r, none⟩) := by
  have := (h.rv rfl).scalar rfl
  simpa [RX] using this
theorem RO_vsl {b n cap : Nat} {v : Value} (h : RO C (.vsl b n cap) v) : v = .slice (some ⟨b, 0, none⟩) n cap := by
  have := (h.rv rfl).scalar rfl
  simpa [RX] using this
theorem RO_ref {ps : List PV} {v : Value} (h : RO C (.ref ps) v) : ∃ b off cs, v = .pointer (some ⟨b, off, none⟩) ∧ At C b off cs ∧ RCs C ps cs := by
  have := (h.rv rfl).scalar rfl
  simpa [RX] using this
theorem RO_sl {e : Nat} {full : Bool} {xs : List PV} {v : Value} (h : RO C (.sl e full xs) v) : ∃ a cap, v = .slice a xs.length cap ∧ xs.length ≤ cap ∧ cap ≤ maxLen ∧ (full = true → cap = xs.length) ∧ (∀ x ∈ xs, elOK e x) ∧
      (xs = [] ∨ ∃ b off cs, a = some ⟨b, off, none⟩ ∧ At C b off cs ∧ RXs C xs cs) := by
  have := (h.rv rfl).scalar rfl
  simp only [RX, List.cons.injEq, and_true] at this
  obtain ⟨a, n, cap, e1, rfl, h2, h3, h4, h5, h6⟩ := this
  exact ⟨a, cap, e1, h2, h3, h4, h5, h6⟩
theorem RO_tup {ps : List PV} {v : Value} (h : RO C (.tup ps) v) : ∃ ws : List Value, v = .tuple ws.toArray ∧ RVs C ps ws := by
  have := (h.rv rfl).scalar rfl
  simpa [RX] using this
theorem RO_agg {ps : List PV} {v : Value} (h : RO C (.agg ps) v) : ∃ vs : Array Value, v = .agg vs ∧ RCs C ps vs.toList := by
  have h1 := h.rv rfl
  cases v <;> simp [RV, PV.isAgg, vIsAgg] at h1
  rename_i cs
  exact ⟨cs, rfl, by simpa [RX, Value.cells] using h1⟩
theorem RV_agg {ps : List PV} {vs : Array Value} (h : RCs C ps vs.toList) : RV C (.agg ps) (.agg vs) := ⟨rfl, by simpa [RX, Value.cells] using h⟩
theorem RO_fn {f : Fn} {first caps : List PV} {v : Value} (h : RO C (.fn f first caps) v) : ∃ vf vc : List Value, v = .func f vf.toArray vc.toArray ∧ RVs C first vf ∧ RVs C caps vc := by
  have := (h.rv rfl).scalar rfl
  simpa [RX] using this
theorem RO_iface {t : TypeId} {p : PV} {v : Value} (h : RO C (.iface t p) v) : ∃ u, v = .iface t u ∧ RV C p u := by
  have := (h.rv rfl).scalar rfl
  simp only [RX, List.cons.injEq, and_true] at this
  exact this
theorem RX_cells {p : PV} {vs : List Value} (h : RX C p vs) : RCs C p.cells vs := by
  cases p <;> first
    | exact h
    | (have hl := RX.length h; simp only [PV.ncells] at hl
       match vs, hl with
       | [v], _ => exact ⟨v, [], rfl, h, by simp [RCs]⟩)
theorem RCs.take : ∀ {ps : List PV} {vs : List Value}, RCs C ps vs → ∀ n, RCs C (ps.take n) (vs.take n)
  | [], _, h, n => by simp [RCs] at h; simp [h, RCs]
  | p :: ps, _, h, n => by
    simp only [RCs] at h
    obtain ⟨v, vs', rfl, h1, h2⟩ := h
    cases n with
    | zero => simp [RCs]
    | succ n => simp only [List.take_succ_cons, RCs]; exact ⟨v, _, rfl, h1, RCs.take h2 n⟩
theorem RCs.drop : ∀ {ps : List PV} {vs : List Value}, RCs C ps vs → ∀ n, RCs C (ps.drop n) (vs.drop n)
  | [], _, h, n => by simp [RCs] at h; simp [h, RCs]
  | p :: ps, _, h, n => by
    have h' := h
    simp only [RCs] at h
    obtain ⟨v, vs', rfl, h1, h2⟩ := h
    cases n with
    | zero => simpa using h'
    | succ n => simpa using RCs.drop h2 n
theorem RCs.append : ∀ {ps qs : List PV} {vs us : List Value}, RCs C ps vs → RCs C qs us → RCs C (ps ++ qs) (vs ++ us)
  | [], _, _, _, h, h' => by simp [RCs] at h; subst h; simpa using h'
  | p :: ps, _, _, _, h, h' => by
    simp only [RCs, List.cons_append] at h ⊢
    obtain ⟨v, vs', rfl, h1, h2⟩ := h
    exact ⟨v, _, rfl, h1, RCs.append h2 h'⟩
theorem RXs.append : ∀ {ps qs : List PV} {vs us : List Value}, RXs C ps vs → RXs C qs us → RXs C (ps ++ qs) (vs ++ us)
  | [], _, _, _, h, h' => by simp [RXs] at h; subst h; simpa using h'
  | p :: ps, _, _, _, h, h' => by
    simp only [RXs, List.cons_append] at h ⊢
    obtain ⟨c1, c2, rfl, h1, h2⟩ := h
    exact ⟨c1, _, by simp, h1, RXs.append h2 h'⟩
theorem RXs.length {e : Nat} : ∀ {ps : List PV} {vs : List Value}, RXs C ps vs → (∀ x ∈ ps, x.ncells = e) → vs.length = ps.length * e
  | [], _, h, _ => by simp [RXs] at h; simp [h]
  | p :: ps, _, h, he => by
    simp only [RXs] at h
    obtain ⟨c1, c2, rfl, h1, h2⟩ := h
    have := RXs.length h2 (fun x hx => he x (by simp [hx]))
    have := RX.length h1
    have := he p (by simp)
    simp only [List.length_append, List.length_cons, Nat.add_mul, Nat.one_mul]
    omega
theorem RXs.at {e : Nat} : ∀ {ps : List PV} {vs : List Value}, RXs C ps vs → (∀ x ∈ ps, x.ncells = e) → ∀ (i : Nat) (p : PV), ps[i]? = some p → ∃ cs, RX C p cs ∧ cs.length = e ∧ ∀ j v, cs[j]? = some v → vs[i * e + j]? = some v
  | [], _, _, _, i, p, hp => by simp at hp
  | q :: ps, _, h, he, i, p, hp => by
    simp only [RXs] at h
    obtain ⟨c1, c2, rfl, h1, h2⟩ := h
    have hl := RX.length h1
    have hq := he q (by simp)
    cases i with
    | zero =>
      simp at hp
      subst hp
      refine ⟨c1, h1, hl.trans hq, fun j v hj => ?_⟩
      have hjl := (List.getElem?_eq_some_iff.1 hj).1
      rw [Nat.zero_mul, Nat.zero_add, List.getElem?_append_left hjl]
      exact hj
    | succ i =>
      simp at hp
      obtain ⟨cs, r1, r2, r3⟩ := RXs.at h2 (fun x hx => he x (by simp [hx])) i p hp
      refine ⟨cs, r1, r2, fun j v hj => ?_⟩
      have := r3 j v hj
      rw [List.getElem?_append_right (by rw [hl, hq, Nat.add_mul]; omega)]
      rw [hl, hq, Nat.add_mul, Nat.one_mul, show i * e + e + j - e = i * e + j by omega]
      exact this
theorem RXs.take : ∀ {ps : List PV} {vs : List Value} {e : Nat}, RXs C ps vs → (∀ x ∈ ps, x.ncells = e) → ∀ n, RXs C (ps.take n) (vs.take (n * e))
  | [], _, _, h, _, n => by simp [RXs] at h; simp [h, RXs]
  | p :: ps, _, e, h, he, n => by
    simp only [RXs] at h
    obtain ⟨c1, c2, rfl, h1, h2⟩ := h
    have hl := (RX.length h1).trans (he p (by simp))
    cases n with
    | zero => simp [RXs]
    | succ n =>
      simp only [List.take_succ_cons, RXs]
      refine ⟨c1, c2.take (n * e), ?_, h1, RXs.take h2 (fun x hx => he x (by simp [hx])) n⟩
      rw [Nat.add_mul, Nat.one_mul, List.take_append, hl, show n * e + e - e = n * e by omega, List.take_of_length_le (by omega)]
theorem RXs.drop : ∀ {ps : List PV} {vs : List Value} {e : Nat}, RXs C ps vs → (∀ x ∈ ps, x.ncells = e) → ∀ n, RXs C (ps.drop n) (vs.drop (n * e))
  | [], _, _, h, _, n => by simp [RXs] at h; simp [h, RXs]
  | p :: ps, _, e, h, he, n => by
    have h' := h
    simp only [RXs] at h
    obtain ⟨c1, c2, rfl, h1, h2⟩ := h
    have hl := (RX.length h1).trans (he p (by simp))
    cases n with
    | zero => simpa using h'
    | succ n =>
      have := RXs.drop h2 (fun x hx => he x (by simp [hx])) n
      have e1 : c1.drop (n * e + e) = [] := List.drop_of_length_le (by omega)
      rw [List.drop_succ_cons, Nat.add_mul, Nat.one_mul, List.drop_append, hl, show n * e + e - e = n * e by omega, e1, List.nil_append]
      exact this
end forms

theorem add_lit (b o n : Nat) : Addr.add ⟨b, o, none⟩ n = ⟨b, o + n, none⟩ := Addr.add_lit b o n

section load
variable {P : Program} {T : TypeId → Option TD} (hT : TyOK P T) {w : World} {C : Nat → Nat → Value → Prop}
include hT
theorem takeV_sound {t : TypeId} {d : TD} (ht : T t = some d) {b off : Nat} {vals : List Value} (hr : ∀ j v, vals[j]? = some v → w.cell? ⟨b, off + j, none⟩ = some v) {cs : List PV} (hc : RCs C cs vals)
    {p : PV} (hq : takeV d.shape.agg d.size cs = some p) : ∃ v, (Instr.loadAt t (.pointer (some ⟨b, off, none⟩))).run P w = .ok v w ∧ RO C p v := by
  have hl := RCs.length hc
  unfold takeV at hq
  cases hagg : d.shape.agg with
  | true =>
    rw [hagg] at hq
    simp only [Option.ite_none_right_eq_some, Option.some.injEq] at hq
    obtain ⟨hn, rfl⟩ := hq
    have hload := run_loadCells_list (P := P) w ⟨b, off, none⟩ (vals.take d.size) (fun j v hj => by
      rw [add_lit]
      refine hr j v ?_
      rw [List.getElem?_take] at hj
      split at hj
      · exact hj
      · cases hj)
    rw [List.length_take, Nat.min_eq_left (by omega)] at hload
    refine ⟨.agg (vals.take d.size).toArray, ?_, .inr (RV_agg (by simpa using hc.take d.size))⟩
    simp [Instr.loadAt, Instr.sureAddr, loadVar, run_isAgg' hT ht, hagg, run_sizeOf' hT ht, hload]
  | false =>
    rw [hagg] at hq
    cases cs with
    | nil => simp at hq
    | cons c cs =>
      have hcc : c = p ∧ p.isAgg = false := by cases c <;> simp at hq <;> subst hq <;> exact ⟨rfl, rfl⟩
      obtain ⟨rfl, hna⟩ := hcc
      simp only [RCs] at hc
      obtain ⟨v, vs', rfl, h1, _⟩ := hc
      refine ⟨v, ?_, .inr (h1.rv hna)⟩
      have := hr 0 v rfl
      simp only [Nat.add_zero] at this
      simp [Instr.loadAt, Instr.sureAddr, loadVar, run_isAgg' hT ht, hagg, this]
end load

section cells
variable {w : World} {st : St}
theorem cell_of_heap {b : Nat} {arr : Array Value} {t : TypeId} {fr : Nat × Nat} (h : w.heap[b]? = some (.cells arr t fr)) (j : Nat) : w.cell? ⟨b, j, none⟩ = arr.toList[j]? := by
  simp [World.cell?, h]
theorem load_sound {P : Program} {T : TypeId → Option TD} (hT : TyOK P T) (hg : Good w st) {t : TypeId} {d : TD} (ht : T t = some d) {pa p : PV} {va : Value} (hv : RO (Cw w st) pa va)
    (hq : q_load st d.shape.agg d.size pa = some p) : ∃ v, (Instr.loadAt t va).run P w = .ok v w ∧ RO (Cw w st) p v := by
  cases pa <;> simp only [q_load] at hq <;> try (cases hq; done)
  case ref cs =>
    obtain ⟨b, off, vals, rfl, h1, h2⟩ := RO_ref hv
    exact takeV_sound hT ht (fun j v hj => (h1 j v hj).1) h2 hq
  case ptr b off =>
    obtain rfl := RO_ptr hv
    cases hb : st b with
    | none => rw [hb] at hq; cases hq
    | some o =>
      rw [hb] at hq
      cases o <;> simp only at hq <;> try (cases hq; done)
      rename_i vs
      obtain ⟨arr, t', h1, h2⟩ := hg b _ hb
      refine takeV_sound hT ht (vals := arr.toList.drop off) (fun j v hj => ?_) (h2.drop off) hq
      rw [cell_of_heap h1, ← hj, List.getElem?_drop]
  case eptr b e i r =>
    obtain rfl := RO_eptr hv
    cases hb : st b with
    | none => rw [hb] at hq; cases hq
    | some o =>
      rw [hb] at hq
      cases o <;> simp only at hq <;> try (cases hq; done)
      rename_i e' xs cap
      split at hq
      case isFalse => cases hq
      rename_i he
      subst he
      obtain ⟨arr, t', h1, h2, h3, h4, h5, h6, h7⟩ := hg b _ hb
      cases hx : xs[i]? with
      | none => rw [hx] at hq; cases hq
      | some x =>
        rw [hx] at hq
        obtain ⟨cs, r1, r2, r3⟩ := RXs.at h7 (fun x hx => (h6 x hx).1) i x hx
        refine takeV_sound hT ht (vals := cs.drop r) (fun j v hj => ?_) ((RX_cells r1).drop r) hq
        rw [List.getElem?_drop] at hj
        have := r3 _ v hj
        rw [List.getElem?_take] at this
        split at this
        · rw [cell_of_heap h1, Nat.add_assoc]; exact this
        · cases this
end cells
end Go.H
namespace Go.H
open Go
set_option linter.unusedVariables false
set_option linter.unusedSectionVars false
set_option linter.unusedSimpArgs false

theorem beq_dec (a b : Int) : (a == b) = decide (a = b) := by rw [Bool.eq_iff_iff]; simp
theorem bne_dec (a b : Int) : (a != b) = decide (a ≠ b) := by rw [Bool.eq_iff_iff]; simp
theorem beq_decL (a b : List UInt8) : (a == b) = decide (a = b) := by rw [Bool.eq_iff_iff]; simp

section
variable {P : Program} {T : TypeId → Option TD} (hT : TyOK P T) {w : World} {st : St} (hg : Good w st)

def Yields (P : Program) (w : World) (st : St) (s : Sem Value) (p : PV) : Prop := ∃ v w', s.run P w = .ok v w' ∧ Evo w st w' st ∧ Good w' st ∧ RO (Cw w' st) p v

theorem RO_cP1 (C : Nat → Nat → Value → Prop) (v : Value) : RO C (cP1 v) v := by
  unfold cP1
  split <;> first
    | exact RO_junk _ _
    | (refine .inr ⟨rfl, ?_⟩; simp only [RX, Value.cells]; done)
    | (refine .inr ⟨rfl, ?_⟩; simp only [RX, Value.cells]; refine ⟨none, 0, 0, rfl, ?_⟩; simp [maxLen])
theorem RCs_cP1 (C : Nat → Nat → Value → Prop) : ∀ (vs : List Value), (vs.map cP1).all PV.cellOK = true → RCs C (vs.map cP1) vs
  | [], _ => by simp [RCs]
  | v :: vs, h => by
    simp only [List.map_cons, List.all_cons, Bool.and_eq_true] at h
    simp only [List.map_cons, RCs]
    have hn : (cP1 v).isJunk = false ∧ (cP1 v).isAgg = false := by
      have := h.1
      revert this
      generalize cP1 v = q
      cases q <;> simp [PV.cellOK, PV.isJunk, PV.isAgg]
    exact ⟨v, vs, rfl, ((RO_cP1 C v).rv hn.1).scalar hn.2, RCs_cP1 C vs h.2⟩
theorem RO_cPV (C : Nat → Nat → Value → Prop) (v : Value) : RO C (cPV v) v := by
  unfold cPV
  split
  · rename_i cs
    split
    · rename_i h
      exact .inr (RV_agg (RCs_cP1 C _ h))
    · exact RO_junk _ _
  · rename_i vs
    split
    · rename_i h
      have : vs = #[] := by simpa using h
      subst this
      exact .inr ⟨rfl, by simp [RX, Value.cells, RVs]⟩
    · exact RO_junk _ _
  · exact RO_cP1 C v
theorem evO_sound {C : Nat → Nat → Value → Prop} {env : List PV} {a : Act} (h : ROs C env a.tmps.toList) (x : Operand) : RO C (evO env x) (a.eval x) := by
  cases x with
  | tmp t =>
    have := h.get t
    simp only [evO, Act.eval]
    simpa [List.getD, Array.getD_eq_getD_getElem?] using this
  | const v => exact RO_cPV C v
  | func f => exact .inr ⟨rfl, by simp [evO, Act.eval, RX, Value.cells, RVs]⟩
  | global g => exact RO_junk _ _

include hg in
theorem Yields.pure {p : PV} {v : Value} (h : RO (Cw w st) p v) : Yields P w st (Pure.pure v) p := ⟨v, w, rfl, Evo.refl w st, hg, h⟩

include hg in
theorem y_pick {c a b p : PV} {vc va vb : Value} (hc : RO (Cw w st) c vc) (ha : RO (Cw w st) a va) (hb : RO (Cw w st) b vb) (hq : q_pick c a b = some p) :
    Yields P w st (do Pure.pure (if ← asBool vc then va else vb)) p := by
  cases c <;> simp [q_pick] at hq
  rename_i t
  obtain rfl := RO_bool hc
  subst hq
  cases t
  · exact ⟨vb, w, by simp [asBool], Evo.refl w st, hg, hb⟩
  · exact ⟨va, w, by simp [asBool], Evo.refl w st, hg, ha⟩

include hT hg in
theorem y_load {t : TypeId} {pa p : PV} {va : Value} (hv : RO (Cw w st) pa va) {d : TD} (ht : T t = some d) (hq : q_load st d.shape.agg d.size pa = some p) : Yields P w st (Instr.loadAt t va) p := by
  obtain ⟨v, h1, h2⟩ := load_sound (P := P) hT hg ht hv hq
  exact ⟨v, w, h1, Evo.refl w st, hg, h2⟩

include hg in
theorem y_nil {x p : PV} {vx : Value} (hx : RO (Cw w st) x vx) (hq : q_nil x = some p) : ∃ a, vx = .pointer (some a) ∧ RO (Cw w st) p vx := by
  cases x <;> simp [q_nil] at hq <;> subst hq
  · obtain ⟨b, off, cs, rfl, h1, h2⟩ := RO_ref hx; exact ⟨_, rfl, hx⟩
  · obtain rfl := RO_ptr hx; exact ⟨_, rfl, hx⟩
  · obtain rfl := RO_eptr hx; exact ⟨_, rfl, hx⟩

include hg in
theorem y_int {op : BinOp} {k : IntKind} {a b : Int} {t : TypeId} {p : PV} (hq : q_int op k a b = some p) : Yields P w st (binOp op t (.int k a) (.int k b)) p := by
  have ok : ∀ {v : Value} {q : PV}, RX (Cw w st) q [v] → q.isAgg = false → Yields P w st (Pure.pure v) q := fun h1 h2 => Yields.pure hg (.inr (h1.rv h2))
  cases op <;> simp only [q_int] at hq <;> (try split at hq) <;> (try (cases hq; done)) <;> (try (simp only [Option.some.injEq] at hq; subst hq)) <;> simp only [binOp, ne_eq, not_true_eq_false, if_false, Op.intArith, Op.intDiv, Op.intCmp]
  all_goals first
    | (refine ok ?_ rfl; simp only [RX]; done)
    | (rename_i hb; simp only [hb, if_false]; refine ok ?_ rfl; simp only [RX]; done)
    | (refine ok ?_ rfl; simp only [RX]; congr 1; done)
    | (refine ok ?_ rfl; simp only [RX]; congr 1; congr 1; done)
    | (refine ok ?_ rfl; simp only [RX]; congr 1; congr 1; first | exact beq_dec _ _ | exact bne_dec _ _)
theorem beq_ba (a b : List UInt8) : ((⟨a.toArray⟩ : ByteArray).toList == (⟨b.toArray⟩ : ByteArray).toList) = decide (a = b) := by
  rw [ByteArray.toList_eq, ByteArray.toList_eq]
  exact beq_decL a b
include hg in
theorem y_str {op : BinOp} {a b : List UInt8} {t : TypeId} {p : PV} (hq : q_str op a b = some p) : Yields P w st (binOp op t (.string ⟨a.toArray⟩) (.string ⟨b.toArray⟩)) p := by
  have ok : ∀ {v : Value} {q : PV}, RX (Cw w st) q [v] → q.isAgg = false → Yields P w st (Pure.pure v) q := fun h1 h2 => Yields.pure hg (.inr (h1.rv h2))
  cases op <;> simp only [q_str] at hq <;> (try (cases hq; done))
  case add =>
    split at hq
    case isFalse => cases hq
    rename_i hl
    simp only [Option.some.injEq] at hq
    subst hq
    simp only [binOp, Op.stringOp]
    rw [if_neg (by have : IntKind.i64.max = 9223372036854775807 := rfl; simp [this, ByteArray.size]; omega)]
    refine ok ?_ rfl
    simp only [RX, List.cons.injEq, Value.string.injEq, and_true]
    apply ByteArray.ext
    simp
  case eql =>
    simp only [Option.some.injEq] at hq
    subst hq
    simp only [binOp, Op.stringOp, beq_ba]
    exact ok (by simp [RX]) rfl
  case neq =>
    simp only [Option.some.injEq] at hq
    subst hq
    simp only [binOp, Op.stringOp, beq_ba]
    exact ok (by simp [RX]) rfl
theorem eqGuard_none {op : BinOp} {t : TypeId} {x y : Operand} {a b : Value} (ha : vIsAgg a = false) (hn : a ≠ .nilIface) (w : World) : (eqGuard op t x y a b).run P w = .ok () w := by
  unfold eqGuard
  cases a <;> simp_all [vIsAgg] <;> (split <;> rfl)
include hg in
theorem y_bin {op : BinOp} {x y p : PV} {vx vy : Value} {t : TypeId} {ox oy : Operand} (hx : RO (Cw w st) x vx) (hy : RO (Cw w st) y vy) (hq : q_bin op x y = some p) :
    Yields P w st (do eqGuard op t ox oy vx vy; binOp op t vx vy) p := by
  cases x <;> simp only [q_bin] at hq <;> (try (cases hq; done))
  case int k a =>
    cases y <;> simp only at hq <;> (try (cases hq; done))
    rename_i k' b
    split at hq
    case isFalse => cases hq
    rename_i hk
    subst hk
    obtain rfl := RO_int hx
    obtain rfl := RO_int hy
    obtain ⟨v, w', h1, h2⟩ := y_int (P := P) (t := t) hg hq
    exact ⟨v, w', by rw [Sem.run_bind, eqGuard_none rfl (by simp)]; exact h1, h2⟩
  case str a =>
    cases y <;> simp only at hq <;> (try (cases hq; done))
    rename_i b
    obtain rfl := RO_str hx
    obtain rfl := RO_str hy
    obtain ⟨v, w', h1, h2⟩ := y_str (P := P) (t := t) hg hq
    exact ⟨v, w', by rw [Sem.run_bind, eqGuard_none rfl (by simp)]; exact h1, h2⟩
include hT hg in
theorem y_beq {op : BinOp} {x y p : PV} {vx vy : Value} {t : TypeId} {d : TD} (ht : T t = some d) (hs : d.shape = .bool) {ox oy : Operand} (hx : RO (Cw w st) x vx) (hy : RO (Cw w st) y vy) (hq : q_beq op x y = some p) :
    Yields P w st (do eqGuard op t ox oy vx vy; binOp op t vx vy) p := by
  have ok : ∀ {v : Value} {q : PV}, RX (Cw w st) q [v] → q.isAgg = false → RO (Cw w st) q v := fun h1 h2 => .inr (h1.rv h2)
  obtain ⟨td, h1, h2⟩ := run_under' hT ht w
  rw [hs] at h2
  simp only [ShpOK] at h2
  subst h2
  cases x <;> simp only [q_beq] at hq <;> (try (cases hq; done))
  cases y <;> simp only at hq <;> (try (cases hq; done))
  rename_i a b
  obtain rfl := RO_bool hx
  obtain rfl := RO_bool hy
  have heq : (Op.equal t (.bool a) (.bool b)).run P w = .ok (a == b) w := by
    show (Op.equalIn (9999 + 1) t (.bool a) (.bool b)).run P w = _
    unfold Op.equalIn
    simp [h1]
  cases op <;> simp only at hq <;> (try (cases hq; done)) <;> simp only [Option.some.injEq] at hq <;> subst hq
  · exact ⟨.bool (a == b), w, by rw [Sem.run_bind, eqGuard_none rfl (by simp)]; simp [binOp, heq], Evo.refl w st, hg, ok (by simp [RX]) rfl⟩
  · exact ⟨.bool (a != b), w, by rw [Sem.run_bind, eqGuard_none rfl (by simp)]; simp [binOp, heq, bne], Evo.refl w st, hg, ok (by simp [RX]) rfl⟩
include hg in
theorem y_un {op : UnOp} {x p : PV} {vx : Value} (hx : RO (Cw w st) x vx) (hq : q_un op x = some p) : Yields P w st (Op.unary op vx) p := by
  cases op <;> simp only [q_un] at hq <;> (try (cases hq; done)) <;> cases x <;> simp at hq <;> subst hq
  · rename_i k n
    obtain rfl := RO_int hx
    exact Yields.pure hg (.inr (RX.rv (by simp [RX]) rfl))
  · rename_i b
    obtain rfl := RO_bool hx
    exact Yields.pure hg (.inr (RX.rv (by simp [RX]) rfl))
include hT hg in
theorem y_conv {src dst : TypeId} {x p : PV} {vx : Value} (hs : (T src).isSome = true) {d : TD} (hd : T dst = some d) (hx : RO (Cw w st) x vx)
    (hq : (match d.shape with | .int k => q_conv k x | .string => q_cstr x | _ => none) = some p) : Yields P w st (convert src dst vx) p := by
  obtain ⟨ds, hds⟩ := Option.isSome_iff_exists.1 hs
  obtain ⟨td, h1, h2⟩ := run_under' hT hd w
  obtain ⟨ts, h3, h4⟩ := run_under' hT hds w
  cases hsh : d.shape <;> rw [hsh] at hq h2 <;> simp only at hq <;> (try (cases hq; done)) <;> simp only [ShpOK] at h2 <;> subst h2
  · rename_i k
    cases x <;> simp only [q_conv] at hq <;> (try (cases hq; done))
    rename_i k' n
    simp only [Option.some.injEq] at hq
    subst hq
    obtain rfl := RO_int hx
    refine ⟨.int k (k.wrap n), w, ?_, Evo.refl w st, hg, .inr (RX.rv (by simp [RX]) rfl)⟩
    unfold convert
    simp [h3, h1, Conv.intToInt]
  · cases x <;> simp only [q_cstr] at hq <;> (try (cases hq; done))
    rename_i s
    simp only [Option.some.injEq] at hq
    subst hq
    obtain rfl := RO_str hx
    refine ⟨.string ⟨s.toArray⟩, w, ?_, Evo.refl w st, hg, .inr (RX.rv (by simp [RX]) rfl)⟩
    unfold convert
    simp [h3, h1]
include hT hg in
theorem y_iface {t : TypeId} {x p : PV} {vx : Value} {d : TD} (hd : T t = some d) (hx : RO (Cw w st) x vx)
    (hq : (match d.shape with | .iface => none | _ => q_iface t x) = some p) : Yields P w st (Instr.makeInterface t vx) p := by
  obtain ⟨td, h1, h2⟩ := run_under' hT hd w
  have hq' : q_iface t x = some p ∧ ∀ m, td ≠ .interface m := by
    cases hsh : d.shape <;> rw [hsh] at hq h2 <;> simp only at hq <;> (try (cases hq; done)) <;> simp only [ShpOK] at h2 <;> refine ⟨hq, fun m hm => ?_⟩ <;> subst hm
    all_goals first
      | (cases h2; done)
      | (obtain ⟨_, h2⟩ := h2; cases h2; done)
      | (obtain ⟨_, h2, _⟩ := h2; cases h2; done)
      | (obtain ⟨_, _, _, h2⟩ := h2; cases h2; done)
      | (exact h2.2.2.2.2.2.2.2.1 m rfl)
  obtain ⟨hq2, hni⟩ := hq'
  unfold q_iface at hq2
  split at hq2
  · cases hq2
  · rename_i hj
    simp only [Option.some.injEq] at hq2
    subst hq2
    have hrv := hx.rv (by simpa using hj)
    refine ⟨.iface t vx, w, ?_, Evo.refl w st, hg, .inr (RX.rv (by simp only [RX]; exact ⟨vx, rfl, hrv.1, hrv.2⟩) rfl)⟩
    unfold Instr.makeInterface
    rw [Sem.run_bind, h1]
    cases td <;> first | rfl | (exact absurd rfl (hni _))
theorem RVs_map {C : Nat → Nat → Value → Prop} {ρ : Operand → PV} {ev : Operand → Value} (hρ : ∀ x, RO C (ρ x) (ev x)) : ∀ (l : List Operand), RVs C (l.map ρ) (l.map ev)
  | [] => by simp [RVs]
  | x :: l => by
    simp only [List.map_cons, RVs]
    exact ⟨_, _, rfl, hρ x, RVs_map hρ l⟩
include hg in
theorem y_func {f : Fn} {ρ : Operand → PV} {ev : Operand → Value} (hρ : ∀ x, RO (Cw w st) (ρ x) (ev x)) {first caps : Array Operand} {p : PV} (hq : q_func f (first.toList.map ρ) (caps.toList.map ρ) = some p) :
    Yields P w st (Instr.makeFunc f (first.map ev) (caps.map ev)) p := by
  simp only [q_func, Option.some.injEq] at hq
  subst hq
  refine Yields.pure hg (.inr (RX.rv ?_ rfl))
  simp only [RX]
  exact ⟨first.toList.map ev, caps.toList.map ev, by rw [← Array.toList_map, ← Array.toList_map], RVs_map hρ _, RVs_map hρ _⟩
end
end Go.H
namespace Go.H
open Go
set_option linter.unusedVariables false
set_option linter.unusedSectionVars false
set_option linter.unusedSimpArgs false

section
variable {P : Program} {T : TypeId → Option TD} (hT : TyOK P T) {w : World} {st : St} (hg : Good w st)

theorem field_at {fields : Array Field} {fs : List (Nat × TypeId)} (h : fields.toList.map (fun f => (f.offset, f.type)) = fs) {i off : Nat} {ft : TypeId} (hi : fs[i]? = some (off, ft)) :
    ∃ fl, fields[i]? = some fl ∧ fl.offset = off ∧ fl.type = ft := by
  subst h
  rw [List.getElem?_map] at hi
  cases hf : fields.toList[i]? with
  | none => rw [hf] at hi; cases hi
  | some fl =>
    rw [hf] at hi
    simp only [Option.map_some, Option.some.injEq, Prod.mk.injEq] at hi
    exact ⟨fl, by simpa using hf, hi.1, hi.2⟩

theorem At.drop {C : Nat → Nat → Value → Prop} {b off : Nat} {cs : List Value} (h : At C b off cs) (n : Nat) : At C b (off + n) (cs.drop n) := fun j v hj => by
  rw [List.getElem?_drop] at hj
  rw [Nat.add_assoc]
  exact h _ v hj
theorem At.take {C : Nat → Nat → Value → Prop} {b off : Nat} {cs : List Value} (h : At C b off cs) (n : Nat) : At C b off (cs.take n) := fun j v hj => by
  rw [List.getElem?_take] at hj
  split at hj
  · exact h _ v hj
  · cases hj

include hT hg in
theorem y_fa {s : TypeId} {x p : PV} {vx : Value} {f off : Nat} {ft : TypeId} {d df : TD} {fs : List (Nat × TypeId)} (hs : T s = some d) (hsh : d.shape = .struct fs) (hf : fs[f]? = some (off, ft)) (hft : T ft = some df) (h0 : df.size ≠ 0)
    (hx : RO (Cw w st) x vx) (hq : q_fa off x = some p) : Yields P w st (Instr.fieldAt s vx f) p := by
  obtain ⟨td, h1, h2⟩ := run_under' hT hs w
  rw [hsh] at h2
  obtain ⟨fields, rfl, h3⟩ := h2
  obtain ⟨fl, h4, h5, h6⟩ := field_at h3 hf
  have key : ∀ (b o : Nat), (Instr.fieldAt s (.pointer (some ⟨b, o, none⟩)) f).run P w = .ok (.pointer (some ⟨b, o + off, none⟩)) w := fun b o => by
    simp [Instr.fieldAt, h1, h4, Instr.sureAddr, fieldPlace, h6, run_sizeOf' hT hft, h0, h5, add_lit]
  cases x <;> simp only [q_fa] at hq <;> (try (cases hq; done))
  case ref cs =>
    obtain ⟨b, o, vals, rfl, h7, h8⟩ := RO_ref hx
    split at hq
    case isFalse => cases hq
    simp only [Option.some.injEq] at hq
    subst hq
    exact ⟨_, w, key b o, Evo.refl w st, hg, .inr (RX.rv (by simp only [RX]; exact ⟨b, o + off, _, rfl, h7.drop off, h8.drop off⟩) rfl)⟩
  case ptr b o =>
    obtain rfl := RO_ptr hx
    simp only [Option.some.injEq] at hq
    subst hq
    exact ⟨_, w, key b o, Evo.refl w st, hg, .inr (RX.rv (by simp [RX]) rfl)⟩
  case eptr b e i r =>
    obtain rfl := RO_eptr hx
    simp only [Option.some.injEq] at hq
    subst hq
    exact ⟨_, w, key b _, Evo.refl w st, hg, .inr (RX.rv (by simp [RX, Nat.add_assoc]) rfl)⟩
include hT hg in
theorem y_field {t : TypeId} {x p : PV} {vx : Value} {f off : Nat} {ft : TypeId} {d df : TD} {fs : List (Nat × TypeId)} (hs : T t = some d) (hsh : d.shape = .struct fs) (hf : fs[f]? = some (off, ft)) (hft : T ft = some df)
    (hx : RO (Cw w st) x vx) (hq : q_field df.shape.agg df.size off x = some p) : Yields P w st (Instr.field t vx f) p := by
  obtain ⟨td, h1, h2⟩ := run_under' hT hs w
  rw [hsh] at h2
  obtain ⟨fields, rfl, h3⟩ := h2
  obtain ⟨fl, h4, h5, h6⟩ := field_at h3 hf
  cases x <;> simp only [q_field] at hq <;> (try (cases hq; done))
  rename_i cs
  obtain ⟨vs, rfl, hvs⟩ := RO_agg hx
  have hl := RCs.length hvs
  unfold takeV at hq
  cases hagg : df.shape.agg with
  | true =>
    rw [hagg] at hq
    simp only [Option.ite_none_right_eq_some, Option.some.injEq] at hq
    obtain ⟨hn, rfl⟩ := hq
    refine ⟨.agg (vs.extract off (off + df.size)), w, ?_, Evo.refl w st, hg, .inr (RV_agg ?_)⟩
    · simp [Instr.field, h1, h4, asAgg, part, h6, run_isAgg' hT hft, hagg, run_sizeOf' hT hft, h5]
    · have := (hvs.drop off).take df.size
      rw [Array.toList_extract, List.extract_eq_take_drop]
      simpa using this
  | false =>
    rw [hagg] at hq
    cases hcs : cs.drop off with
    | nil => rw [hcs] at hq; simp at hq
    | cons c cs' =>
      rw [hcs] at hq
      have hcc : c = p ∧ p.isAgg = false := by cases c <;> simp at hq <;> subst hq <;> exact ⟨rfl, rfl⟩
      obtain ⟨rfl, hna⟩ := hcc
      have hd := hvs.drop off
      rw [hcs] at hd
      simp only [RCs] at hd
      obtain ⟨v, vs', hv, h7, _⟩ := hd
      have hget : vs[off]? = some v := by
        have : (vs.toList.drop off)[0]? = some v := by rw [hv]; rfl
        simpa using this
      refine ⟨v, w, ?_, Evo.refl w st, hg, .inr (h7.rv hna)⟩
      simp [Instr.field, h1, h4, asAgg, part, h6, run_isAgg' hT hft, hagg, h5, hget]
include hT hg in
theorem y_ia {t e : TypeId} {x i p : PV} {vx vi : Value} {d de : TD} (hs : T t = some d) (hsh : d.shape = .slice e) (he : T e = some de)
    (hx : RO (Cw w st) x vx) (hi : RO (Cw w st) i vi) (hq : q_ia de.size x i = some p) : Yields P w st (Instr.indexAt t vx vi) p := by
  obtain ⟨td, h1, h2⟩ := run_under' hT hs w
  rw [hsh] at h2
  simp only [ShpOK] at h2
  subst h2
  cases i <;> simp only [q_ia] at hq <;> (try (cases hq; done))
  rename_i k i
  obtain rfl := RO_int hi
  cases x <;> simp only at hq <;> (try (cases hq; done))
  case sl e' full xs =>
    obtain ⟨a, cap, rfl, h3, h4, h5, h6, h7⟩ := RO_sl hx
    split at hq
    case isFalse => cases hq
    rename_i h0
    split at hq
    case isFalse => cases hq
    rename_i hee
    subst hee
    cases hxi : xs[i.toNat]? with
    | none => rw [hxi] at hq; cases hq
    | some y =>
      rw [hxi] at hq
      simp only [Option.some.injEq] at hq
      subst hq
      have hlt := (List.getElem?_eq_some_iff.1 hxi).1
      rcases h7 with h7 | ⟨b, off, cs, rfl, h7, h8⟩
      · subst h7; simp at hlt
      obtain ⟨c1, r1, r2, r3⟩ := RXs.at h8 (fun x hx => (h6 x hx).1) i.toNat y hxi
      refine ⟨.pointer (some ⟨b, off + i.toNat * de.size, none⟩), w, ?_, Evo.refl w st, hg, .inr (RX.rv ?_ rfl)⟩
      · have hlt' : i < (xs.length : Int) := by omega
        simp [Instr.indexAt, asIntOf, h1, h0, hlt', run_sizeOf' hT he, add_lit]
      · simp only [RX]
        refine ⟨b, _, c1, rfl, fun j v hj => ?_, RX_cells r1⟩
        have := h7 _ v (r3 j v hj)
        rwa [← Nat.add_assoc] at this
  case vsl b n cap =>
    obtain rfl := RO_vsl hx
    split at hq
    case isFalse => cases hq
    rename_i h0
    simp only [Option.some.injEq] at hq
    subst hq
    have hlt' : i < (n : Int) := by omega
    refine ⟨.pointer (some ⟨b, i.toNat * de.size, none⟩), w, ?_, Evo.refl w st, hg, .inr (RX.rv (by simp [RX]) rfl)⟩
    simp [Instr.indexAt, asIntOf, h1, h0.1, hlt', run_sizeOf' hT he, add_lit]
include hT hg in
theorem y_ix {t : TypeId} {x i p : PV} {vx vi : Value} {d : TD} (hs : T t = some d) (hsh : d.shape = .string)
    (hx : RO (Cw w st) x vx) (hi : RO (Cw w st) i vi) (hq : q_ix x i = some p) : Yields P w st (Instr.index t vx vi) p := by
  obtain ⟨td, h1, h2⟩ := run_under' hT hs w
  rw [hsh] at h2
  simp only [ShpOK] at h2
  subst h2
  cases x <;> simp only [q_ix] at hq <;> (try (cases hq; done))
  rename_i s
  cases i <;> simp only at hq <;> (try (cases hq; done))
  rename_i k i
  obtain rfl := RO_int hi
  obtain rfl := RO_str hx
  split at hq
  case isFalse => cases hq
  rename_i h0
  cases hc : s[i.toNat]? with
  | none => rw [hc] at hq; cases hq
  | some c =>
    rw [hc] at hq
    simp only [Option.some.injEq] at hq
    subst hq
    have hlt := (List.getElem?_eq_some_iff.1 hc)
    have hb : (ByteArray.mk s.toArray)[i.toNat]? = some c := by
      obtain ⟨hl, he⟩ := hlt
      have hsz : i.toNat < (ByteArray.mk s.toArray).size := by simpa [ByteArray.size] using hl
      rw [getElem?_pos (ByteArray.mk s.toArray) i.toNat hsz]
      simp only [Option.some.injEq]
      show (ByteArray.mk s.toArray).data[i.toNat] = c
      simpa using he
    refine ⟨.int .u8 c.toNat, w, ?_, Evo.refl w st, hg, .inr (RX.rv (by simp [RX]) rfl)⟩
    simp [Instr.index, asIntOf, h1, h0, hb]
theorem RVs.at {C : Nat → Nat → Value → Prop} : ∀ {ps : List PV} {vs : List Value}, RVs C ps vs → ∀ (i : Nat) (p : PV), ps[i]? = some p → ∃ v, vs[i]? = some v ∧ RO C p v
  | [], _, _, i, p, hp => by simp at hp
  | q :: ps, _, h, i, p, hp => by
    simp only [RVs] at h
    obtain ⟨v, vs', rfl, h1, h2⟩ := h
    cases i with
    | zero => simp at hp; subst hp; exact ⟨v, rfl, h1⟩
    | succ i => simp at hp; simpa using RVs.at h2 i p hp
include hg in
theorem y_ex {x p : PV} {vx : Value} {i : Nat} (hx : RO (Cw w st) x vx) (hq : q_ex x i = some p) : Yields P w st (Instr.extract vx i) p := by
  cases x <;> simp only [q_ex] at hq <;> (try (cases hq; done))
  rename_i ps
  obtain ⟨ws, rfl, h1⟩ := RO_tup hx
  obtain ⟨v, h2, h3⟩ := h1.at i p hq
  refine ⟨v, w, ?_, Evo.refl w st, hg, h3⟩
  simp [Instr.extract, h2]
include hT hg in
theorem y_lenS {t ty : TypeId} {x p : PV} {vx : Value} {d : TD} (hs : T t = some d) (h3 : d.shape = .string)
    (hx : RO (Cw w st) x vx) (hq : q_lenS x = some p) : Yields P w st (Builtin.len_ #[t] ty #[vx]) p := by
  obtain ⟨td, h1, h2⟩ := run_under' hT hs w
  rw [h3] at h2
  simp only [ShpOK] at h2
  subst h2
  cases x <;> simp only [q_lenS] at hq <;> (try (cases hq; done))
  rename_i s
  obtain rfl := RO_str hx
  simp only [Option.some.injEq] at hq
  subst hq
  refine ⟨.int .i64 s.length, w, ?_, Evo.refl w st, hg, .inr (RX.rv (by simp [RX]) rfl)⟩
  have hsz : (ByteArray.mk s.toArray).size = s.length := by simp [ByteArray.size]
  simp [Builtin.len_, h1, goInt, hsz]
include hT hg in
theorem y_len {t ty e : TypeId} {x p : PV} {vx : Value} {d : TD} (hs : T t = some d) (h3 : d.shape = .slice e)
    (hx : RO (Cw w st) x vx) (hq : q_len x = some p) : Yields P w st (Builtin.len_ #[t] ty #[vx]) p := by
  obtain ⟨td, h1, h2⟩ := run_under' hT hs w
  rw [h3] at h2
  simp only [ShpOK] at h2
  subst h2
  cases x <;> simp only [q_len] at hq <;> (try (cases hq; done)) <;> simp only [Option.some.injEq] at hq <;> subst hq
  · obtain ⟨a, cap, rfl, _⟩ := RO_sl hx
    exact ⟨_, w, by simp [Builtin.len_, h1, goInt]; rfl, Evo.refl w st, hg, .inr (RX.rv (by simp [RX]) rfl)⟩
  · obtain rfl := RO_vsl hx
    exact ⟨_, w, by simp [Builtin.len_, h1, goInt]; rfl, Evo.refl w st, hg, .inr (RX.rv (by simp [RX]) rfl)⟩
end

section slices
variable {P : Program} {T : TypeId → Option TD} (hT : TyOK P T) {w : World} {st : St} (hg : Good w st)
theorem bound_ok {C : Nat → Nat → Value → Prop} {x : PV} {v : Value} (h : RO C x v) {n y : Nat} {d : Nat} (hq : optI (some x) d = some n) (hn : n ≤ y) (code : BoundsCode) : (Instr.sliceBound v y code).run P w = .ok n w := by
  cases x <;> simp only [optI] at hq <;> (try (cases hq; done))
  rename_i k i
  obtain rfl := RO_int h
  split at hq
  case isFalse => cases hq
  rename_i h0
  simp only [Option.some.injEq] at hq
  have hy : i ≤ (y : Int) := by omega
  simp [Instr.sliceBound, asIntOf, h0, hy, hq]
def RO? (C : Nat → Nat → Value → Prop) : Option PV → Option Value → Prop
  | none, none => True
  | some p, some v => RO C p v
  | _, _ => False
theorem RO?_map {C : Nat → Nat → Value → Prop} {ρ : Operand → PV} {ev : Operand → Value} (hρ : ∀ x, RO C (ρ x) (ev x)) (o : Option Operand) : RO? C (o.map ρ) (o.map ev) := by
  cases o with
  | none => trivial
  | some x => exact hρ x
theorem sliceBounds_plain {C : Nat → Nat → Value → Prop} {len cap h l : Nat} (isS : Bool) {lo hi : Option PV} {vlo vhi : Option Value} (hlo : RO? C lo vlo) (hhi : RO? C hi vhi)
    (h1 : optI hi len = some h) (h2 : optI lo 0 = some l) (h3 : l ≤ h) (h4 : h ≤ len) (h5 : len ≤ cap) : (Instr.sliceBounds isS len cap vlo vhi none).run P w = .ok (l, h, cap) w := by
  cases hi with
  | none => cases vhi with
    | some v => exact hhi.elim
    | none =>
      simp only [optI, Option.some.injEq] at h1
      subst h1
      cases lo with
      | none => cases vlo with
        | some v => exact hlo.elim
        | none =>
          simp only [optI, Option.some.injEq] at h2
          subst h2
          rfl
      | some p => cases vlo with
        | none => exact hlo.elim
        | some v =>
          have hl := bound_ok (P := P) (w := w) hlo h2 h3 (if (none : Option Value).isSome then .slice3C else .sliceB)
          unfold Instr.sliceBounds
          simp only [Sem.run_bind, Sem.run_pure, Result.andThen_ok, hl]
  | some q => cases vhi with
    | none => exact hhi.elim
    | some u =>
      have hh := bound_ok (P := P) (w := w) (y := cap) hhi h1 (by omega) (if isS = true then .sliceAcap else .sliceAlen)
      cases lo with
      | none => cases vlo with
        | some v => exact hlo.elim
        | none =>
          simp only [optI, Option.some.injEq] at h2
          subst h2
          unfold Instr.sliceBounds
          simp only [Sem.run_bind, Sem.run_pure, Result.andThen_ok, hh]
      | some p => cases vlo with
        | none => exact hlo.elim
        | some v =>
          have hl := bound_ok (P := P) (w := w) hlo h2 h3 (if (none : Option Value).isSome then .slice3C else .sliceB)
          unfold Instr.sliceBounds
          simp only [Sem.run_bind, Sem.run_pure, Result.andThen_ok, hh, hl]
theorem sliceBounds_three {C : Nat → Nat → Value → Prop} {len cap h l m : Nat} {lo hi mx : Option PV} {vlo vhi vmx : Option Value} (hlo : RO? C lo vlo) (hhi : RO? C hi vhi) (hmx : RO? C mx vmx) {pm : PV} (hpm : mx = some pm)
    (h0 : optI (some pm) 0 = some m) {ph : PV} (hph : hi = some ph) (h1 : optI (some ph) 0 = some h) (h2 : optI lo 0 = some l) (h3 : l ≤ h) (h4 : h ≤ m) (h5 : m ≤ cap) : (Instr.sliceBounds true len cap vlo vhi vmx).run P w = .ok (l, h, m) w := by
  subst hpm
  subst hph
  cases vmx with
  | none => exact hmx.elim
  | some vm =>
  cases vhi with
  | none => exact hhi.elim
  | some vh =>
  have hm := bound_ok (P := P) (w := w) hmx h0 h5 .slice3Acap
  have hh := bound_ok (P := P) (w := w) hhi h1 h4 .slice3B
  cases lo with
  | none => cases vlo with
    | some v => exact hlo.elim
    | none =>
      simp only [optI, Option.some.injEq] at h2
      subst h2
      unfold Instr.sliceBounds
      simp only [if_true, Sem.run_bind, Sem.run_pure, Result.andThen_ok, hm, hh]
  | some p => cases vlo with
    | none => exact hlo.elim
    | some v =>
      have hl := bound_ok (P := P) (w := w) hlo h2 h3 .slice3C
      unfold Instr.sliceBounds
      simp only [if_true, Option.isSome_some, Sem.run_bind, Sem.run_pure, Result.andThen_ok, hm, hh, hl]
theorem sl_window {C : Nat → Nat → Value → Prop} {e : Nat} {xs : List PV} {a : Option Addr} (h6 : ∀ x ∈ xs, elOK e x) (h7 : xs = [] ∨ ∃ b off cs, a = some ⟨b, off, none⟩ ∧ At C b off cs ∧ RXs C xs cs) (l h m : Nat) (hlh : l ≤ h) (hml : h ≤ m) :
    (∀ x ∈ (xs.take h).drop l, elOK e x) ∧ ((xs.take h).drop l = [] ∨ ∃ b off cs, (if m = l then a else a.map (·.add (l * e))) = some ⟨b, off, none⟩ ∧ At C b off cs ∧ RXs C ((xs.take h).drop l) cs) := by
  refine ⟨fun x hx => h6 x (List.mem_of_mem_take (List.mem_of_mem_drop hx)), ?_⟩
  rcases h7 with rfl | ⟨b, off, cs, rfl, h7, h8⟩
  · exact .inl (by simp)
  · by_cases hml' : m = l
    · have : h = l := by omega
      subst this
      exact .inl (by rw [List.drop_eq_nil_iff]; simp only [List.length_take]; omega)
    · refine .inr ⟨b, off + l * e, (cs.take (h * e)).drop (l * e), ?_, ?_, ?_⟩
      · simp [hml', add_lit]
      · exact (h7.take _).drop _
      · exact RXs.drop (RXs.take h8 (fun x hx => (h6 x hx).1) h) (fun x hx => (h6 x (List.mem_of_mem_take hx)).1) l
include hT hg in
theorem y_slice {t : TypeId} {x p : PV} {vx : Value} {lo hi mx : Option PV} {vlo vhi vmx : Option Value} (hx : RO (Cw w st) x vx) (hlo : RO? (Cw w st) lo vlo) (hhi : RO? (Cw w st) hi vhi) (hmx : RO? (Cw w st) mx vmx)
    (hq : q_sliceT T t x lo hi mx = some p) : Yields P w st (Instr.sliceAt t vx vlo vhi vmx) p := by
  unfold q_sliceT at hq
  cases ht : T t with
  | none => rw [ht] at hq; cases hq
  | some d =>
  rw [ht] at hq
  simp only at hq
  obtain ⟨td, h1, h2⟩ := run_under' hT ht w
  cases hsh : d.shape <;> rw [hsh] at hq h2 <;> simp only at hq <;> (try (cases hq; done)) <;> simp only [ShpOK] at h2 <;> subst h2
  case string =>
    cases x <;> simp only [q_sliceS] at hq <;> (try (cases hq; done))
    rename_i s
    obtain rfl := RO_str hx
    simp only [q_slice] at hq
    cases mx with
    | some q => cases hq
    | none =>
    cases vmx with
    | some v => exact hmx.elim
    | none =>
    cases hh : optI hi s.length with
    | none => rw [hh] at hq; cases hq
    | some h =>
    cases hl : optI lo 0 with
    | none => rw [hh, hl] at hq; cases hq
    | some l =>
    rw [hh, hl] at hq
    simp only at hq
    split at hq
    case isFalse => cases hq
    rename_i hb
    simp only [Option.some.injEq] at hq
    subst hq
    have hsz : (⟨s.toArray⟩ : ByteArray).size = s.length := by simp [ByteArray.size]
    have hbd := sliceBounds_plain (P := P) (w := w) false hlo hhi hh hl hb.1 hb.2 (Nat.le_refl _)
    refine ⟨.string ((⟨s.toArray⟩ : ByteArray).extract l h), w, ?_, Evo.refl w st, hg, .inr (RX.rv ?_ rfl)⟩
    · simp [Instr.sliceAt, Instr.slice, h1, hsz, hbd]
    · simp only [RX, List.cons.injEq, Value.string.injEq, and_true]
      apply ByteArray.ext
      simp [List.extract_eq_take_drop, List.drop_take]
  case slice e =>
    cases he : T e with
    | none => rw [he] at hq; cases hq
    | some de =>
    rw [he] at hq
    simp only at hq
    unfold q_sliceE at hq
    cases x <;> simp only at hq <;> (try (cases hq; done))
    case vsl b n c =>
      obtain rfl := RO_vsl hx
      cases mx with
      | some q => cases hq
      | none =>
      cases vmx with
      | some v => exact hmx.elim
      | none =>
      cases hh : optI hi n with
      | none => rw [hh] at hq; cases hq
      | some h =>
      cases hl : optI lo 0 with
      | none => rw [hh, hl] at hq; cases hq
      | some l =>
      rw [hh, hl] at hq
      simp only at hq
      split at hq
      case isFalse => cases hq
      rename_i hb
      obtain ⟨rfl, hb1, hb2⟩ := hb
      simp only [Option.some.injEq] at hq
      subst hq
      have hbd := sliceBounds_plain (P := P) (w := w) true hlo hhi hh hl (Nat.zero_le _) hb1 hb2
      refine ⟨.slice (some ⟨b, 0, none⟩) h c, w, ?_, Evo.refl w st, hg, .inr (RX.rv (by simp [RX]) rfl)⟩
      simp [Instr.sliceAt, Instr.slice, h1, hbd, run_sizeOf' hT he, add_lit]
    rename_i e' full xs
    split at hq
    case isFalse => cases hq
    rename_i hee
    subst hee
    obtain ⟨a, cap, rfl, h3, h4, h5, h6, h7⟩ := RO_sl hx
    simp only [q_slice] at hq
    cases hh : optI hi xs.length with
    | none => rw [hh] at hq; cases hq
    | some h =>
    cases hl : optI lo 0 with
    | none => rw [hh, hl] at hq; cases hq
    | some l =>
    rw [hh, hl] at hq
    simp only at hq
    cases mx with
    | none =>
      cases vmx with
      | some v => exact hmx.elim
      | none =>
      simp only at hq
      split at hq
      case isFalse => cases hq
      rename_i hb
      simp only [Option.some.injEq] at hq
      subst hq
      have hbd := sliceBounds_plain (P := P) (w := w) true hlo hhi hh hl hb.1 hb.2 h3
      obtain ⟨r1, r2⟩ := sl_window h6 h7 l h cap hb.1 (by omega)
      refine ⟨.slice (if cap = l then a else a.map (·.add (l * de.size))) (h - l) (cap - l), w, ?_, Evo.refl w st, hg, .inr (RX.rv ?_ rfl)⟩
      · simp [Instr.sliceAt, Instr.slice, h1, hbd, run_sizeOf' hT he]
      · simp only [RX]
        refine ⟨_, _, _, rfl, ?_, by omega, by omega, ?_, r1, r2⟩
        · rw [List.length_drop, List.length_take]; omega
        · intro hf
          simp only [Bool.and_eq_true, decide_eq_true_eq] at hf
          have := h5 hf.1
          omega
    | some pm =>
      simp only at hq
      cases hm : optI (some pm) 0 with
      | none => rw [hm] at hq; cases hq
      | some m =>
      rw [hm] at hq
      simp only at hq
      split at hq
      case isFalse => cases hq
      rename_i hb
      simp only [Option.some.injEq] at hq
      subst hq
      cases hi with
      | none => cases hb.1
      | some ph =>
      replace hb := hb.2
      have hph : optI (some ph) 0 = some h := by
        cases ph <;> simp only [optI] at hh ⊢ <;> exact hh
      have hbd := sliceBounds_three (P := P) (w := w) (len := xs.length) (cap := cap) hlo hhi hmx rfl hm rfl hph hl hb.1 (by omega) (by omega)
      obtain ⟨r1, r2⟩ := sl_window h6 h7 l h m hb.1 (by omega)
      refine ⟨.slice (if m = l then a else a.map (·.add (l * de.size))) (h - l) (m - l), w, ?_, Evo.refl w st, hg, .inr (RX.rv ?_ rfl)⟩
      · simp [Instr.sliceAt, Instr.slice, h1, hbd, run_sizeOf' hT he]
      · simp only [RX]
        refine ⟨_, _, _, rfl, ?_, by omega, by omega, fun _ => by omega, r1, r2⟩
        rw [List.length_drop, List.length_take]; omega
end slices
end Go.H
