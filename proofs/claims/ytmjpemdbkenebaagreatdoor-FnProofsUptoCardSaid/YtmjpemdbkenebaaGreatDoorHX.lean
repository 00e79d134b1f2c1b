/- Part of a proof that the program answers as the reference does: ZHC6, ZHC7, ZHC8, ZHC1, ZHT2, ZHC3, ZHC4, ZHC5. -/
import Derived.Test.YtmjpemdbkenebaaGreatDoorHS0
import Derived.Test.YtmjpemdbkenebaaGreatDoorHS1
import Derived.Test.YtmjpemdbkenebaaGreatDoorHS10
import Derived.Test.YtmjpemdbkenebaaGreatDoorHS2
import Derived.Test.YtmjpemdbkenebaaGreatDoorHS3
import Derived.Test.YtmjpemdbkenebaaGreatDoorHS4
import Derived.Test.YtmjpemdbkenebaaGreatDoorHS5
import Derived.Test.YtmjpemdbkenebaaGreatDoorHS6
import Derived.Test.YtmjpemdbkenebaaGreatDoorHS7
import Derived.Test.YtmjpemdbkenebaaGreatDoorHS8
import Derived.Test.YtmjpemdbkenebaaGreatDoorHS9
import Derived.Test.YtmjpemdbkenebaaGreatDoorHP
import Derived.Test.YtmjpemdbkenebaaGreatDoorHL
set_option linter.unusedVariables false
set_option linter.unusedSimpArgs false
namespace Go.H.Tryz
open Go Go.H

theorem zqlw (s cs : List UInt8) (hs : s.length ≤ 9223372036854775807) (hc : cs.length ≤ 1000) (ha : cs.all (fun b => decide (b.toNat < 128)) = true) (st : St) :
  zq5 prog n_strings_Trim [.str s, .str cs] st (Just (.str (Lib.trimS s cs)) st) := by
 refine zq5.below [.string ⟨s.toArray⟩, .string ⟨cs.toArray⟩] zqm9 (ROs_str2 s cs) (fun C => RO_str_mk C _) fun w => ?_
 exact Go.Proofs.Tryz.strings_Trim_ascii ⟨s.toArray⟩ ⟨cs.toArray⟩ w (by simpa [ByteArray.size] using hs) (by simp [ByteArray.size]; omega) (Go.Proofs.ascii_of_all (by simpa using ha))
theorem zq1k (s : List UInt8) (c : UInt8) (st : St) : zq5 prog n_strings_IndexByte [.str s, .int .u8 c.toNat] st (Just (.int .i64 (Lib.indexByte s c)) st) := by
 refine zq5.below [.string ⟨s.toArray⟩, .int .u8 c.toNat] zqd7 (ROs_str_int s .u8 c.toNat) (v := .int .i64 (Lib.indexByte s c)) (fun C => RO_int_mk C _ _) fun w => ?_
 refine (Go.Proofs.Tryz.strings_IndexByte ⟨s.toArray⟩ c.toNat w).mono ?_
 rintro e w' ⟨rfl, rfl⟩
 exact ⟨by simp, RowKit.Below.refl _ _⟩
theorem zqkn (s cs : List UInt8) (hs : s.length ≤ 9223372036854775807) (hc : cs.length ≤ 1000) (ha : cs.all (fun b => decide (b.toNat < 128)) = true) (st : St) :
  zq5 prog n_impl_over [.str s, .str cs] st (Just (.bool (s.all fun c => cs.contains c)) st) := by
 apply c_impl_over
 unfold zql9
 refine zq1 (zqlw s cs hs hc ha _) ?_
 generalize hv : (s.all fun c => cs.contains c) = v
 try simp
 refine Just.bool ?_
 rw [← hv, Bool.eq_iff_iff, decide_eq_true_eq, trimS_nil]
theorem zq9y (n a b : Int) (st : St) : zq5 prog n_impl_in [.int .i64 n, .int .i64 a, .int .i64 b] st (Just (.bool (decide (a ≤ n) && decide (n ≤ b))) st) := by
 apply c_impl_in
 unfold b_impl_in
 try simp
 refine zql (fun h => Just.bool (by simp [h])) (fun h => Just.bool (by simp [h]))
theorem zq4t (c : UInt8) (st : St) : zq5 prog n_impl_isHead [.int .u8 c.toNat] st (Just (.bool (zqcl c)) st) := by
 apply c_impl_isHead
 unfold zqfz
 refine zq1 (zq1k zqlu c _) ?_
 try simp
 refine Just.bool ?_
 rw [Bool.eq_iff_iff, decide_eq_true_eq, (zq3p c zqlu).1, letter_signs]
theorem zqfg (s : List UInt8) (st : St) : zq5 prog n_impl_wordOK [.str s] st (Just (.bool (wordOK s)) st) := by
 apply c_impl_wordOK
 unfold zqfr
 generalize hv : wordOK s = v
 try simp
 refine zq1 (zq9y _ _ _ _) ?_
 try simp
 cases s with
 | nil => simp; exact Just.bool (by rw [← hv]; rfl)
 | cons c r =>
   simp only [wordOK] at hv
   refine zq50 (fun h => ?_) (fun h => Just.bool ?_)
   ·simp at h
    try simp
    refine zq1 (zq4t _ _) ?_
    try simp
    refine zq50 (fun hc => ?_) (fun hc => Just.bool (by rw [← hv, hc]; simp))
    refine zq1 (zqkn (c :: r) zq55 (by simp; omega) (by decide) (by decide +kernel) _) ?_
    refine Just.bool ?_
    rw [← hv, hc, decide_eq_true (by omega)]
    simp only [List.all_cons, word_signs, hc, Bool.true_or, Bool.true_and]
   ·rw [← hv, decide_eq_false (by simp at h; omega)]; rfl
theorem zq4e (s p : List UInt8) (st : St) : zq5 prog n_internal_stringslite_HasPrefix [.str s, .str p] st (Just (.bool (p.isPrefixOf s)) st) := by
 apply zq4j
 unfold zq2e
 generalize hv : p.isPrefixOf s = v
 try simp
 refine zql (fun h => ?_) (fun h => Just.bool ?_)
 ·simp [zq17, zq5d, optI, h]
  refine Just.bool ?_
  rw [← hv, Bool.eq_iff_iff, decide_eq_true_eq, List.isPrefixOf_iff_prefix, List.prefix_iff_eq_take]
  exact eq_comm
 ·rw [← hv]
  cases hp : p.isPrefixOf s with
  | false => rfl
  | true =>
    have := (List.isPrefixOf_iff_prefix.1 hp).length_le
    omega
theorem zq4f (s p : List UInt8) (st : St) : zq5 prog n_internal_stringslite_CutPrefix [.str s, .str p] st (Just (.tup [.str (if p.isPrefixOf s = true then s.drop p.length else s), .bool (p.isPrefixOf s)]) st) := by
 apply zq4k
 unfold zq2f
 refine zq1 (zq4e _ _ _) ?_
 generalize hv : PV.tup [.str (if p.isPrefixOf s = true then s.drop p.length else s), .bool (p.isPrefixOf s)] = v
 cases h : p.isPrefixOf s with
 | true =>
   rw [h] at hv
   have hl := (List.isPrefixOf_iff_prefix.1 h).length_le
   try simp [zq17, zq5d, optI, hl]
   exact Just.same hv
 | false =>
   rw [h] at hv
   try simp
   exact Just.same hv
theorem zqcn (s p : List UInt8) (st : St) : zq5 prog n_strings_CutPrefix [.str s, .str p] st (Just (.tup [.str (if p.isPrefixOf s = true then s.drop p.length else s), .bool (p.isPrefixOf s)]) st) := by
 apply zqdb
 unfold zq69
 refine zq1 (zq4f _ _ _) ?_
 try simp
 exact Just.same rfl
theorem zq2w (s : List UInt8) (st : St) : zq5 prog n_impl_NameOK [.str s] st (Just (.bool (zq8t s)) st) := by
 apply c_impl_NameOK
 unfold zqg6
 generalize hv : zq8t s = v
 unfold zq8t at hv
 refine zq1 (zqfg _ _) ?_
 try simp
 refine zq50 (fun hw => ?_) (fun hw => Just.bool (by rw [← hv, hw]; rfl))
 rw [hw, Bool.true_and] at hv
 refine zql (fun h => Just.bool (by rw [← hv, decide_eq_true h]; rfl)) (fun h1 => ?_)
 rw [decide_eq_false h1, Bool.not_false, Bool.true_and] at hv
 refine zql (fun h => Just.bool (by rw [← hv, decide_eq_true h]; rfl)) (fun h2 => ?_)
 rw [decide_eq_false h2, Bool.not_false, Bool.true_and] at hv
 cases s with
 | nil => simp [wordOK] at hw
 | cons c r =>
   have hlen : r.length ≤ 40 := by simp [wordOK] at hw; omega
   simp only at hv
   refine zq1 (zqcn _ _ _) ?_
   try simp
   by_cases hc : c = 120
   ·subst hc
    try simp [List.isPrefixOf]
    refine zql (fun h => Just.bool (by rw [← hv, h]; rfl)) (fun h => ?_)
    refine zq1 (zqkn r digitSigns (by omega) (by decide) (by decide +kernel) _) ?_
    simp only [digit_signs]
    refine Just.bool ?_
    rw [← hv, decide_eq_false h]; simp
   ·have : ([120] : List UInt8).isPrefixOf (c :: r) = false := by
     simp [List.isPrefixOf]; exact fun h => hc h.symm
    try simp [this]
    exact Just.bool (by rw [← hv, decide_eq_false hc]; rfl)
end Go.H.Tryz
set_option linter.unusedVariables false
set_option linter.unusedSimpArgs false
namespace Go.H.Tryz
open Go Go.H

theorem zq3x (t : Tr) (k : Nat) {p : PV} {st : St} (hp : PT st (tree t).cells p) : zq5 prog n_impl_Tree_bare [p, .int .i64 (k : Int)] st (Just (.bool (t.bare k)) st) := by
 apply zqif
 unfold zq9n
 generalize hv : t.bare k = v
 unfold Tr.bare at hv
 obtain ⟨q1, g1, g1'⟩ := hp.at_ 1 (by simp)
 obtain ⟨q2, g2, g2'⟩ := hp.at_ 2 (by simp)
 obtain ⟨q3, g3, g3'⟩ := hp.at_ 3 (by simp)
 try simp [hp.nil, g1, g1']
 refine zql (fun hn => ?_) (fun hn => Just.bool (by rw [← hv, decide_eq_false hn]; rfl))
 try simp [hp.nil, g2, g2']
 refine zql (fun hs => ?_) (fun hs => Just.bool (by rw [← hv, decide_eq_false hs]; simp))
 try simp [hp.nil, g3, g3']
 exact Just.bool (by rw [← hv, decide_eq_true hn, decide_eq_true hs]; simp; omega)
def lk (m : Int) (o : Bool) : HObj := .cells [.int .i64 m, .bool o]
def zq4x (b : Nat) (o : Bool) (res : Option Int) (st : St) : Res → St → Prop := fun r st' => match res with
 | some m => r = .ret (.bool true) ∧ st' = upd st b (lk m o)
 | none => r = .ret (.bool false) ∧ ∃ m, st' = upd st b (lk m o)
theorem callK_look {P : Program} {g : FuncId} {us : List PV} {st : St} {b : Nat} {o : Bool} {K Kp : PV → St → Prop} {res : Option Int} (hc : zq5 P g us st (zq4x b o res st)) (hy : ∀ m, res = some m → K (.bool true) (upd st b (lk m o))) (hn : res = none → ∀ m, K (.bool false) (upd st b (lk m o))) : zqb P g us st K Kp := by
 refine zq15 hc (fun q st' h => ?_) (fun q st' h => ?_)
 ·cases res with
  | some m => obtain ⟨h, rfl⟩ := h; cases h; exact hy m rfl
  | none => obtain ⟨h, m, rfl⟩ := h; cases h; exact hn rfl m
 ·cases res with
  | some m => obtain ⟨h, _⟩ := h; cases h
  | none => obtain ⟨h, _⟩ := h; cases h
theorem zq4x.yes {b : Nat} {o : Bool} {m : Int} {st st1 : St} {res : Option Int} (h : res = some m) (hs : Sub (upd st b (lk m o)) st1) : retR (zq4x b o res st) (.bool true) st1 := by
 subst h; exact zq1h hs ⟨rfl, rfl⟩
theorem zq4x.no {b : Nat} {o : Bool} {m : Int} {st st1 : St} {res : Option Int} (h : res = none) (hs : Sub (upd st b (lk m o)) st1) : retR (zq4x b o res st) (.bool false) st1 := by
 subst h; exact zq1h hs ⟨rfl, m, rfl⟩
theorem zq1w (b : Nat) (o : Bool) (m : Int) (hm : -1000 ≤ m ∧ m ≤ 1000) {st : St} (hb : st b = some (lk m o)) :
  zq5 prog n_impl_looker_node [.ptr b 0] st (zq4x b o (if 1 ≤ m then some (m - 1) else none) st) := by
 apply zqey
 unfold zq7l
 unfold lk at hb
 try simp [zq6 hb]
 rw [zqs (by omega) (by omega), zqh _ _ _ _ _ _ _ hb]
 try simp [zqg, zq6, zq11]
 by_cases h : 1 ≤ m
 ·rw [if_pos h, decide_eq_true (by omega)]
  exact zq4x.yes rfl (Sub.refl _)
 ·rw [if_neg h, decide_eq_false (by omega)]
  exact zq4x.no (m := m - 1) rfl (Sub.refl _)
theorem Sub.self {st : St} {b : Nat} {o : HObj} (h : st b = some o) : Sub (Go.H.upd st b o) st := fun c oc hc => by
 unfold Go.H.upd at hc
 split at hc
 ·rename_i e; rw [e, h]; exact hc
 ·exact hc
theorem zq51 (b : Nat) (o : Bool) (ts : List Tr) (hl : ts.length ≤ maxLen) (m : Int) (hm : 0 ≤ m ∧ m ≤ 1000) {st : St} (hb : st b = some (lk m o))
  (ih : ∀ t ∈ ts, ∀ m : Int, 0 ≤ m ∧ m ≤ 1000 → ∀ {st : St}, st b = some (lk m o) → zq5 prog n_impl_looker_term [.ptr b 0, tree t] st (zq4x b o (looks (Tr.isTerm o) t m) st)) :
  zq5 prog n_impl_looker_args [.ptr b 0, trees ts] st (zq4x b o (zq34 (Tr.isArg o) ts m) st) := by
 apply zqez
 unfold zq7m
 generalize hv : zq34 (Tr.isArg o) ts m = v
 try simp
 refine loop_fold (β := Int × St) ts (fun z i => [.int .i64 (i : Int)]) (fun z => z.2) (fun z rest => 0 ≤ z.1 ∧ z.1 ≤ 1000 ∧ Sub (upd st b (lk z.1 o)) z.2 ∧ zq34 (Tr.isArg o) rest z.1 = v) ?_ ?_ (m, st) ⟨hm.1, hm.2, Sub.self hb, hv⟩
 ·rintro i x rest ⟨m, s⟩ hi hx ⟨q1, q2, qs, qv⟩ k
  simp only at q1 q2 qs qv
  rw [looksAll_cons] at qv
  have hsb : s b = some (lk m o) := qs.get (by simp [zq11])
  have hxm := List.mem_of_getElem? hx
  try simp [hi, zq4r _ hx]
  intro c hc
  have hne := ne_of hsb hc
  have hst : (upd st b (lk m o)) c = none := by
   cases h : upd st b (lk m o) c with
   | none => rfl
   | some oc => rw [qs c oc h] at hc; cases hc
  try simp [zq6, zq11]
  refine zq52 fun J hJ => ?_
  have hs2 : Sub (upd st b (lk m o)) (upd s c (.cells (tree x).cells)) := qs.put hst
  have hb2 : upd s c (.cells (tree x).cells) b = some (lk m o) := by simp [zq11, hne, hsb]
  have next : ∀ m', looks (Tr.isArg o) x m = some m' → ∀ s' : St, Sub (upd st b (lk m' o)) s' → hFix _ [.int .i64 (IntKind.i64.wrap ((i : Int) + 1))] s' := fun m' hm' s' hs' => by
   rw [W_idx hi hl]
   have := looks_le hm'
   rw [hm'] at qv
   exact k (m', s') ⟨this.1, by simp only; omega, hs', qv⟩
  have stop : looks (Tr.isArg o) x m = none → ∀ m' (s' : St), Sub (upd st b (lk m' o)) s' → retR (zq4x b o v st) (.bool false) s' := fun h m' s' hs' => by
   rw [h] at qv
   exact zq4x.no (by rw [← qv]; rfl) hs'
  have hup : ∀ m', Sub (upd st b (lk m' o)) (upd (upd s c (.cells (tree x).cells)) b (lk m' o)) := fun m' => by
   have := hs2.upd b (lk m' o)
   simpa using this
  have main : J [.bool (o && decide (x.kind = 8))] (upd s c (.cells (tree x).cells)) := hJ _ _ (by
   by_cases h8 : o = true ∧ x.kind = 8
   ·have hb1 : Tr.isArg o x = x.bare 0 := by unfold Tr.isArg; rw [if_pos h8]
    rw [show (o && decide (x.kind = 8)) = true by simp [h8]]
    try simp
    refine zq1 (zq3x x 0 (PT.ptr (by simp [zq11]))) ?_
    try simp
    refine zq50 (fun h => ?_) (fun h => ?_)
    ·have hk : x.size = 1 := by
      unfold Tr.bare at h
      simp only [Bool.and_eq_true, decide_eq_true_eq] at h
      rw [Tr.size_kids, List.length_eq_zero_iff.1 h.2]; rfl
     refine callK_look (zq1w b o m (by omega) hb2) (fun m' hm' => ?_) (fun hm' m' => ?_)
     ·simp
      refine next m' ?_ _ (hup m')
      split at hm'
      ·cases hm'
       unfold looks; rw [if_pos ⟨by rw [hb1]; exact h, by omega⟩, hk]; rfl
      ·cases hm'
     ·simp
      refine stop ?_ m' _ (hup m')
      split at hm'
      ·cases hm'
      ·unfold looks; rw [if_neg (by rw [hk]; omega)]
    ·exact stop (by unfold looks; rw [if_neg (fun hh => by rw [hb1, h] at hh; cases hh.1)]) m _ hs2
   ·have hb1 : Tr.isArg o x = x.isTerm o := by unfold Tr.isArg; rw [if_neg h8]
    have : (o && decide (x.kind = 8)) = false := by
     cases o <;> simp at h8 ⊢
     exact h8
    have hle : looks (Tr.isArg o) x m = looks (Tr.isTerm o) x m := by unfold looks; rw [hb1]
    rw [this]
    try simp [zq6, zq11]
    refine callK_look (ih x hxm m ⟨q1, q2⟩ hb2) (fun m' hm' => ?_) (fun hm' m' => ?_)
    ·simp
     exact next m' (by rw [hle]; exact hm') _ (hup m')
    ·simp
     exact stop (by rw [hle]; exact hm') m' _ (hup m'))
  have hb3 := hb2
  unfold lk at hb3
  rw [zq6 hb3]
  try simp
  refine zq50 (fun ho => ?_) (fun ho => ?_)
  ·simpa [ho, zq6, zq11] using main
  ·simpa [ho] using main
 ·rintro ⟨m, s⟩ ⟨q1, q2, qs, qv⟩
  simp only at q1 q2 qs qv
  rw [looksAll_nil _ q1] at qv
  try simp
  exact zq4x.yes qv.symm qs
end Go.H.Tryz
set_option linter.unusedVariables false
set_option linter.unusedSimpArgs false
namespace Go.H.Tryz
open Go Go.H

theorem looks_kids {f : Tr → Bool} {g : Tr → Bool} {t : Tr} {m : Int} (h : f t = t.kids.all g) : looks f t m = if 1 ≤ m then zq34 g t.kids (m - 1) else none := by
 unfold looks zq34
 rw [h, Tr.size_kids]
 by_cases h1 : 1 ≤ m
 ·rw [if_pos h1]
  by_cases h2 : t.kids.all g = true ∧ (Tr.sizes t.kids : Int) ≤ m - 1
  ·rw [if_pos h2, if_pos ⟨h2.1, by omega⟩]; congr 1; omega
  ·rw [if_neg h2, if_neg (fun hh => h2 ⟨hh.1, by omega⟩)]
 ·rw [if_neg h1, if_neg (fun hh => by omega)]
theorem looks_no {f : Tr → Bool} {t : Tr} {m : Int} (h : f t = false) : looks f t m = none := by
 unfold looks; rw [if_neg (fun hh => by rw [h] at hh; cases hh.1)]
theorem zqkj {f : Tr → Bool} {t : Tr} {m : Int} (h : ¬ 1 ≤ m) : looks f t m = none := by
 have := t.size_pos
 unfold looks; rw [if_neg (fun hh => by omega)]
theorem zqa4 (b : Nat) (o : Bool) (t : Tr) (m : Int) (hm : 0 ≤ m ∧ m ≤ 1000) {st : St} (hb : st b = some (lk m o))
  (ih : ∀ x ∈ t.kids, ∀ m : Int, 0 ≤ m ∧ m ≤ 1000 → ∀ {st : St}, st b = some (lk m o) → zq5 prog n_impl_looker_term [.ptr b 0, tree x] st (zq4x b o (looks (Tr.isTerm o) x m) st))
  (ihs : ∀ m : Int, 0 ≤ m ∧ m ≤ 1000 → ∀ {st : St}, st b = some (lk m o) → zq5 prog n_impl_looker_args [.ptr b 0, trees t.kids] st (zq4x b o (zq34 (Tr.isArg o) t.kids m) st)) :
  zq5 prog n_impl_looker_term [.ptr b 0, tree t] st (zq4x b o (looks (Tr.isTerm o) t m) st) := by
 apply zqex
 unfold zq7k
 refine zq9 (zqf _) ?_
 generalize hv : looks (Tr.isTerm o) t m = v
 have ht := Tr.isTerm_eq o t
 refine callK_look (zq1w b o m (by omega) hb) (fun m' hm' => ?_) (fun hm' m' => ?_)
 rotate_left
 ·simp
  refine zq4x.no ?_ (Sub.refl (upd st b (lk m' o)))
  rw [← hv]
  split at hm'
  ·cases hm'
  ·exact zqkj ‹_›
 split at hm'
 case isFalse => cases hm'
 rename_i h1
 cases hm'
 have hb' : upd st b (lk (m - 1) o) b = some (lk (m - 1) o) := zq2 _ _ _
 have no : Tr.isTerm o t = false → retR (zq4x b o v st) (.bool false) (upd st b (lk (m - 1) o)) := fun h => zq4x.no (by rw [← hv]; exact looks_no h) (Sub.refl (upd st b (lk (m - 1) o)))
 have step : ∀ (g : Tr → Bool) (n : FuncId) (us : List PV), (Tr.isTerm o t = t.kids.all g) → zq5 prog n us (upd st b (lk (m - 1) o)) (zq4x b o (zq34 g t.kids (m - 1)) (upd st b (lk (m - 1) o))) →
   zqb prog n us (upd st b (lk (m - 1) o)) (fun p s => retR (zq4x b o v st) p s) (panR (zq4x b o v st)) := fun g n us hg hc => by
  rw [looks_kids hg, if_pos h1] at hv
  rw [hv] at hc
  refine callK_look hc (fun m' hm' => ?_) (fun hm' m' => ?_)
  ·simp
   exact zq4x.yes hm' (Sub.refl _)
  ·simp
   exact zq4x.no hm' (Sub.refl (upd st b (lk m' o)))
 try simp
 refine zql (fun h4 => ?_) (fun h4 => ?_)
 ·rw [if_pos h4] at ht
  refine zq1 (zq3x t 1 (PT.ref _ _)) ?_
  try simp
  refine zq50 (fun hbr => ?_) (fun hbr => no (by rw [ht, hbr]; rfl))
  have hl : t.kids.length = 1 := by unfold Tr.bare at hbr; simp at hbr; exact hbr.2
  obtain ⟨a, ha, hall⟩ := one_all' (p := Tr.isTerm o) hl
  try simp [zq6l (ts := t.kids) (t := a) _ (by rw [ha]; rfl)]
  refine step (Tr.isTerm o) _ _ (by rw [ht, hbr]; rfl) ?_
  have hx := ih a (by rw [ha]; simp) (m - 1) (by omega) hb'
  have e : zq34 (Tr.isTerm o) t.kids (m - 1) = looks (Tr.isTerm o) a (m - 1) := by
   unfold zq34 looks; rw [ha]; simp [Tr.sizes]
  rw [e]
  exact hx
 ·rw [if_neg h4] at ht
  refine zq52 fun J hJ => ?_
  have main : J [.bool (decide (t.kind = 5 ∨ t.kind = 7))] (upd st b (lk (m - 1) o)) := hJ _ _ (by
   try simp
   refine zq50 (fun h57 => ?_) (fun h57 => ?_)
   ·have h57' : t.kind = 5 ∨ t.kind = 7 := by simpa using h57
    rw [if_pos h57'] at ht
    refine zq1 (zq9y _ _ _ _) ?_
    try simp
    refine zq50 (fun h0 => ?_) (fun h0 => no (by rw [ht, h0]; rfl))
    refine zql (fun hs => ?_) (fun hs => no (by rw [ht, decide_eq_false hs]; simp))
    exact step (Tr.isArg o) _ _ (by rw [ht, h0, decide_eq_true hs]; rfl) (ihs _ (by omega) hb')
   ·have h57' : ¬ (t.kind = 5 ∨ t.kind = 7) := by simpa using h57
    rw [if_neg h57'] at ht
    refine zql (fun h6 => ?_) (fun h6 => no (by rw [ht, if_neg h6]))
    rw [if_pos h6] at ht
    refine zql (fun h0 => ?_) (fun h0 => no (by rw [ht, decide_eq_false h0]; rfl))
    refine zq1 (zq2w _ _) ?_
    try simp
    refine zq50 (fun hs => ?_) (fun hs => no (by rw [ht, hs]; simp))
    exact step (Tr.isArg o) _ _ (by rw [ht, decide_eq_true h0, hs]; rfl) (ihs _ (by omega) hb'))
  refine zql (fun h5 => ?_) (fun h5 => ?_)
  ·simpa [h5] using main
  ·simpa [h5] using main
theorem zq72 (b : Nat) (o : Bool) (t : Tr) (m : Int) (hm : 0 ≤ m ∧ m ≤ 1000) {st : St} (hb : st b = some (lk m o)) :
  zq5 prog n_impl_looker_term [.ptr b 0, tree t] st (zq4x b o (looks (Tr.isTerm o) t m) st) := by
 induction t using Tr.ind generalizing m st with
 | _ t ih =>
 refine zq5.wf zqek fun hw => ?_
 exact zqa4 b o t m hm hb ih fun m hm {st} hb => zq51 b o t.kids (tree_wf hw.2.1).1 m hm hb ih
theorem zq5h (st : St) : zq5 prog n_impl_fresh [] st (fun r st' => ∃ b, st b = none ∧ r = .ret (.ptr b 0) ∧ st' = upd st b (lk 150 false)) := by
 apply c_impl_fresh
 unfold zqik
 try simp [zqe, fillL]
 refine zq2a rfl fun b hb => ?_
 exact zq29 ⟨b, hb, rfl, rfl⟩
theorem zqa1 {P : Program} {g : FuncId} {us : List PV} {st : St} {o : HObj} {K Kp : PV → St → Prop} (hc : zq5 P g us st (fun r st' => ∃ b, st b = none ∧ r = .ret (.ptr b 0) ∧ st' = upd st b o)) (hk : ∀ b, st b = none → K (.ptr b 0) (upd st b o)) : zqb P g us st K Kp := by
 refine zq15 hc (fun q st' h => ?_) (fun q st' h => ?_)
 ·obtain ⟨b, hb, h1, rfl⟩ := h; cases h1; exact hk b hb
 ·obtain ⟨b, hb, h1, rfl⟩ := h; cases h1
theorem looks_ok (f : Tr → Bool) (t : Tr) : (looks f t 150).isSome = (t.small && f t) := by
 unfold looks Tr.small
 by_cases h1 : f t = true <;> by_cases h2 : t.size ≤ 150
 ·rw [if_pos ⟨h1, by omega⟩]; simp [h1, h2]
 ·rw [if_neg (fun h => by omega)]; simp [h1, h2]
 ·rw [if_neg (fun h => h1 h.1)]; simp [h1, h2]
 ·rw [if_neg (fun h => h1 h.1)]; simp [h1, h2]
theorem zqfl (t : Tr) (st : St) : zq5 prog n_impl_TermOK [tree t] st (Just (.bool t.termOK) st) := by
 apply c_impl_TermOK
 unfold zqg4
 refine zq9 (zqf _) ?_
 generalize hv : t.termOK = v
 unfold Tr.termOK at hv
 rw [← looks_ok] at hv
 try simp
 refine zqa1 (zq5h _) fun b hb => ?_
 try simp
 refine callK_look (zq72 b false t 150 (by omega) (zq2 _ _ _)) (fun m hm => ?_) (fun hm m => ?_)
 ·exact Just.bool (by rw [← hv, hm]; rfl) (by simpa using (Sub.refl st).fresh hb)
 ·exact Just.bool (by rw [← hv, hm]; rfl) (by simpa using (Sub.refl st).fresh hb)
theorem zqm3 (t : Tr) (st : St) : zq5 prog n_impl_badTerm [tree t] st (Just (.bool (!t.termOK)) st) := by
 apply zqmk
 unfold zqdw
 refine zq9 (zqf _) ?_
 try simp
 refine zq1 (zqfl t _) ?_
 try simp
 exact Just.bool rfl
theorem zq35 (ts : List Tr) (g : FuncId) (us vs : List PV) (p : Tr → Bool) (st : St) (hg : ∀ t ∈ ts, zq5 prog g (us ++ [tree t] ++ vs) st (Just (.bool (p t)) st)) :
  zq5 prog n_slices_IndexFunc_impl_Tree_impl_Tree [trees ts, .fn (.func g) us vs] st (Just (.int .i64 (idxGo p 0 ts)) st) := by
 refine zq5.wf zq37 fun hw => ?_
 have hl := (trees_wf hw.1).1
 apply zq38
 unfold zq1o
 generalize hv : idxGo p 0 ts = v
 try simp
 refine zqz (β := Unit) ts (fun _ i => [.int .i64 (i : Int)]) (fun _ => st) (fun _ i rest => idxGo p i rest = v) ?_ ?_ () hv
 ·intro i x rest _ hi hx hq k
  rw [idxGo] at hq
  try simp [hi, zq4r _ hx]
  refine zq1 (by simpa using hg x (List.mem_of_getElem? hx)) ?_
  try simp
  refine zq50 (fun h => Just.int (by rw [← hq, if_pos h])) (fun h => ?_)
  rw [W_idx hi hl]
  exact k () (by rw [← hq, if_neg (by rw [h]; simp)])
 ·intro _ hq
  try simp
  exact Just.int hq
theorem zq2r (ts : List Tr) (g : FuncId) (us vs : List PV) (p : Tr → Bool) (st : St) (hg : ∀ t ∈ ts, zq5 prog g (us ++ [tree t] ++ vs) st (Just (.bool (p t)) st)) :
  zq5 prog n_slices_ContainsFunc_impl_Tree_impl_Tree [trees ts, .fn (.func g) us vs] st (Just (.bool (ts.any p)) st) := by
 apply zq2s
 unfold zq1e
 refine zq1 (zq35 ts g us vs p st hg) ?_
 try simp
 exact Just.bool (by rw [Bool.eq_iff_iff, decide_eq_true_eq]; exact (idxGo_any p ts 0).1)
end Go.H.Tryz
set_option linter.unusedVariables false
set_option linter.unusedSimpArgs false
namespace Go.H.Tryz
open Go Go.H

end Go.H.Tryz
set_option linter.unusedVariables false
set_option linter.unusedSimpArgs false
namespace Go.H.Tryz
open Go Go.H
end Go.H.Tryz
set_option linter.unusedVariables false
set_option linter.unusedSimpArgs false
namespace Go.H.Tryz
open Go Go.H

end Go.H.Tryz
set_option linter.unusedVariables false
set_option linter.unusedSimpArgs false
namespace Go.H.Tryz
open Go Go.H

end Go.H.Tryz
set_option linter.unusedVariables false
set_option linter.unusedSimpArgs false
namespace Go.H.Tryz
open Go Go.H

end Go.H.Tryz
