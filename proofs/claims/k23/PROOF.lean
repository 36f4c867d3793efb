import PyProof.Rows.All
import HandS.Zip
import KE.GoesMore
import HandS.ForMost
import HandS.Exc
import HandS.ExcOwn
import HandS.TryOnly
import HandS.WordsExc
import HandS.Wide
import HandS.IsInst
import HandS.Flow
import HandS.EndBits
import HandS.TupAny
import HandS.TupLe
import HandS.Codes
import HandS.Deep
import HandS.SortInts
import HandS.SortRule
import HandS.More
import HandS.WideBits
import HandS.Defaults
import HandS.Conv
import HandS.Rev
import HandS.RevTup
import HandS.StrMore
import HandS.Text
import HandS.TryMany
import HandS.ExcIs
import KE.KeyNested
import KE.DatumOrd
import HandS.RaiseMore
import HandS.WordsDict
import KE.IntTextLaws
import HandS.Style
import KE.SortKeyHeap
import HandS.Keys
import HandS.SortKw
import PySem.Challenge.RW_oneslate_k23_a_tell_heard
set_option Elab.async false
set_option linter.all false
set_option maxRecDepth 100000
set_option maxHeartbeats 4000000
namespace Rg
open PySem PySem.Spec PyProof.Rows L2
open AutoSeq1 (wpAny_loadPart')
theorem meets_enumerate_newT (l : Addr) (items : Array Value) (n : Nat) (dct : Option Addr) (sl : Array (Option Value)) :
    Meets (Builtin.«enumerate.__new__» ⟨[.type "enumerate", .ref l], []⟩) (fun _ R s => s.heap.get? l = some { cls := .type "tuple", dict := dct, data := .seq items n, slots := sl } ∧
      R (.ok (.ret (.ref (s.heap.push { cls := .type "tuple_iterator", data := .fields #[.ref l, .int 0 0] }).objs.size)))
        { s with heap := (s.heap.push { cls := .type "tuple_iterator", data := .fields #[.ref l, .int 0 0] }).push { cls := .type "enumerate", data := .fields #[.none, .bool false, .ref s.heap.objs.size, rawInt 0, .none, .none] } }) :=
  .of_wp fun prog w A R s h => by
    obtain ⟨hp, g, d, tk, os⟩ := s; obtain ⟨hl, h⟩ := h
    have hsub := sub_enumerate
    have hL : Heap.IsTuple (Shared.heap ⟨hp, g, d, tk, os⟩) l items := ⟨_, hl, rfl, n, rfl⟩
    wp_walk using wpAny_loadPart' hl
    refine wpAny_stack_any fun st => wpAny_pure ?_
    split
    · rename_i c _ _ _ _ _
      cases (c == Value.type "enumerate")
      · wp_walk using wpAny_loadPart' hl, wpAny_pyIter_tuple hL
        exact ⟨_, rfl, h⟩
      · wp_walk using wpAny_loadPart' hl, wpAny_pyIter_tuple hL
        exact ⟨_, rfl, h⟩
    · wp_walk using wpAny_loadPart' hl, wpAny_pyIter_tuple hL
      exact ⟨_, rfl, h⟩
/-- list.extend by any plain list -/
theorem meets_extend_any (l : Addr) (items : Array Value) (n : Nat) (b : Addr) (items2 : Array Value) (n2 : Nat) (d2 : Option Addr) (sl2 : Array (Option Value)) (hc0 : ¬(!items.isEmpty && Builtin.List.listTooLong (items.size + items2.size)) = true) (hc1 : items.size ≤ sizeLine) (hs2 : items.size + items2.size ≤ sizeLine + 1) :
    Meets (Builtin.«list.extend» ⟨[.ref l, .ref b], []⟩) (fun _ R s => s.heap.get? l = some { cls := .type "list", dict := none, data := .seq items n, slots := #[] } ∧ s.heap.get? b = some { cls := .type "list", dict := d2, data := .seq items2 n2, slots := sl2 } ∧ R (.ok (.ret Value.none)) { s with heap := s.heap.update l (Obj.mapSeq fun x => x ++ items2), toks := s.toks }) :=
  .of_wp fun prog w A R s h => by
    obtain ⟨hp, g, d, tk, os⟩ := s; obtain ⟨hl, hb, h⟩ := h
    have hz' : (items ++ items2).size ≤ sizeLine + 1 := by rw [Array.size_append]; exact hs2
    wp_walk using (wpAny_updateSeq hl rfl (hz := hc1) (_hz' := hz')), wpAny_loadPart' hl, wpAny_loadPart' hb; exact ⟨_, rfl, h⟩
section
variable {prog : Program} {w : World} {A : Around} {E : Value → Shared → Prop} {s : Shared}
theorem call_enumerate_tuple {l : Addr} {items : Array Value} {Q : Value → Shared → Prop} (hL : s.heap.IsTuple l items)
    (h : ∀ h', IsEnum h' (s.heap.objs.size + 1) s.heap.objs.size 0 .none → h'.IsTupleIter s.heap.objs.size l 0 → h'.objs.size = s.heap.objs.size + 2 →
      (∀ b o, s.heap.get? b = some o → h'.get? b = some o) → Q (.ref (s.heap.objs.size + 1)) { s with heap := h' }) :
    wpAny (model prog w) A (call (.type "enumerate") [.ref l]) Q E s := by
  obtain ⟨⟨c, dct, dt, sl⟩, hl, hc, n, hd⟩ := hL
  replace hc : c = .type "tuple" := hc
  replace hd : dt = .seq items n := hd
  subst hc hd
  refine callType_new F.called_enumerate (by decide) (F.typeCall_enumerate_1 _) (F.newCall_enumerate_1 _) (fun obj => F.args_object_init_2 obj _) F.entry_enumerate_new
    (meets_enumerate_newT l items n dct sl) ⟨hl, ?_⟩
  have hz : (s.heap.push { cls := .type "tuple_iterator", data := .fields #[.ref l, .int 0 0] }).objs.size = s.heap.objs.size + 1 := Heap.size_push ..
  show _ ∧ _
  rw [hz]
  have he : IsEnum ((s.heap.push { cls := .type "tuple_iterator", data := .fields #[.ref l, .int 0 0] }).push
      { cls := .type "enumerate", data := .fields #[.none, .bool false, .ref s.heap.objs.size, rawInt 0, .none, .none] }) (s.heap.objs.size + 1) s.heap.objs.size 0 .none := by
    have := Heap.get?_push_size (s.heap.push { cls := .type "tuple_iterator", data := .fields #[.ref l, .int 0 0] })
      (o := { cls := .type "enumerate", data := .fields #[.none, .bool false, .ref s.heap.objs.size, rawInt 0, .none, .none] }) rfl
    rw [hz] at this; exact this
  refine ⟨⟨_, he, rfl⟩, h _ he ⟨_, Heap.get?_push_of_some _ (Heap.get?_push_size _ rfl), rfl, rfl⟩ (by rw [Heap.size_push, hz]) fun b o x => Heap.get?_push_of_some _ (Heap.get?_push_of_some _ x)⟩
end
/-- the tuple at a, each item in a new pair -/
def IteT (K : PySem.W.Frag) (a : Addr) (n : Nat) : It :=
  ⟨fun i H => ∃ (xs : List V) (x : V), SqT K H a xs ∧ xs.length = n ∧ xs[i]? = some x, fun i H v H' => ∃ T x, v = .ref T ∧ H T = none ∧ H' = upd H T (.tup [.int (i : Nat), x]) ∧ ∀ xs, SqT K H a xs → xs[i]? = some x, fun i H => ∃ xs : List V, SqT K H a xs ∧ xs.length = n ∧ n ≤ i⟩
theorem turn_enumT {P : Program} {w : World} {K : PySem.W.Frag} {elts : List Expr} {kk : Nat} {tpos : Pos} (a e it n : Nat) :
    Turn P w K (.Tuple elts kk tpos) (IteT K a n) [e, it] e (fun i h => (∃ old, IsEnum h e it ((i : Nat) : Int) old) ∧ h.IsTupleIter it a i ∧ e ≠ it ∧ a ≠ e ∧ a ≠ it ∧ i ≤ n) where
  mem := by simp
  obj := fun i h st b hb => by
    obtain ⟨⟨old, he⟩, ⟨o, ho, hc, hd⟩, _⟩ := st
    have e' : b = e ∨ b = it := by simpa using hb
    rcases e' with z | z
    · rw [z]; exact ⟨_, he, fun v q => nomatch q⟩
    · rw [z]; exact ⟨o, ho, fun v q => by rw [hd] at q; cases q⟩
  keep := fun i h h' st k => let ⟨⟨old, he⟩, hi, hne⟩ := st; ⟨⟨old, k e (by simp) _ he⟩, hi.at fun o q => k it (by simp) o q, hne⟩
  item := by
    intro X hP hw hK hc i pins s σ H E I hf st hg
    subst hP hw hK
    obtain ⟨⟨old, he⟩, hit, hne, hae, hai, hin⟩ := st
    obtain ⟨xs, x, hq, hxn, hx⟩ := hg
    obtain ⟨its, rv, p, hz⟩ := I.tuple hq
    obtain ⟨u, hu, ru⟩ := rv.get hx
    have hel : e < s.heap.objs.size := Heap.lt_size he
    have hil : it < s.heap.objs.size := by obtain ⟨_, q, _⟩ := hit; exact Heap.lt_size q
    have hlen := rv.length
    have hlt : i < its.toArray.size := by
      have := (List.getElem?_eq_some_iff.mp hx).1
      simp; omega
    refine wpAny_pyNext_enum_itemD (Draws.tuple (A := X.A.in1) (I.ok.hd hc) it a hai its.toArray) he ⟨hit, p⟩ hlt hne (by simp [hne, Ne.symm hae]) fun x1 h' tk hx1 ho hst' hT hsz hk => ?_
    have ex1 : x1 = u := by
      have h1 : its.toArray[i]? = some u := by simpa using hu
      have h2 : its.toArray[i]? = some x1 := hx1
      rw [h1] at h2; exact (Option.some.inj h2).symm
    subst ex1
    obtain ⟨hit', _⟩ := hst'
    refine ⟨_, rfl, wpAny_letOwnedTupleGo_enum (s := { s with heap := h', toks := tk + 1 }) ho fun h'' he' sb => ?_⟩
    have hT2 : h''.get? s.heap.objs.size = some { cls := .type "tuple", data := .seq #[.int i tk, x1] } := (sb.2 _ (Nat.ne_of_gt hel)).trans hT
    have new : ObjOk X.prog X.w (upd H s.heap.objs.size (.tup [.int (i : Nat), x])) h'' s.heap.objs.size (.tup [.int (i : Nat), x]) :=
      ⟨by show 2 ≤ sizeLine; decide, [.int i tk, x1], .cons ⟨_, rfl⟩ (.cons ru .nil), ⟨_, hT2, rfl, _, rfl⟩⟩
    have I1 : Inv X pins σ (upd H s.heap.objs.size (.tup [.int (i : Nat), x])) { s with heap := h'', toks := tk + 1 } :=
      I.turnedNew (ch := [e, it]) (fun b ob hb q => (sb.2 b (fun z => hb (by simp [z]))).trans (hk b ob (fun z => hb (by simp [z])) (fun z => hb (by simp [z])) q)) hf (Nat.le_refl _) new
    refine ⟨.ref s.heap.objs.size, _, I1, rfl, ⟨_, x, rfl, I.hok.fresh (Nat.le_refl _), rfl, fun ys hy => by rw [I.tuple_inj hy hq]; exact hx⟩, ⟨⟨x1, ?_⟩, hit'.at fun o q => (sb.2 it (Ne.symm hne)).trans q, hne, hae, hai, ?_⟩, fun b hb => ?_⟩
    · have e1 : ((i + 1 : Nat) : Int) = (i : Int) + 1 := by omega
      rw [e1]; exact he'
    · have := (List.getElem?_eq_some_iff.mp hx).1
      omega
    · have hb' : b < s.heap.objs.size := by
        have e' : b = e ∨ b = it := by simpa using hb
        rcases e' with z | z
        · rw [z]; exact hel
        · rw [z]; exact hil
      rw [upd_ne (Nat.ne_of_lt hb')]
      exact (hf b hb).1
  done := by
    intro X hP hw hK hc i pins s σ H E I hf st hg
    subst hP hw hK
    obtain ⟨⟨old, he⟩, hit, hne, hae, hai, hin⟩ := st
    obtain ⟨xs, hq, hxn, hx⟩ := hg
    obtain ⟨its, rv, p, hz⟩ := I.tuple hq
    obtain ⟨f0, f1, f2, f3, f4, f5⟩ := hf it (by simp)
    have hl := rv.length
    have ei : i = its.toArray.size := by simp; omega
    exact wpAny_pyNext_enum_endD (Draws.tuple (A := X.A.in1) (I.ok.hd hc) it a hai its.toArray) he ⟨by rw [← ei]; exact hit, p⟩ fun h' eb => ⟨rfl, I.turned (t' := s.toks) (fun b o hb q => eb b o hb q) f0 f1 f3 f4 f5⟩
  self := fun A i s Q E st h => let ⟨⟨_, he⟩, _⟩ := st; wpAny_pyIter_enum he h
def iEnumA (K : PySem.W.Frag) (ta : TA) : TI := fun σ H R => ta σ H fun vs H1 => ∃ a xs, vs = [.ref a] ∧ ((SqL K H1 a xs ∧ R (Ite K a) H1) ∨ (SqT K H1 a xs ∧ R (IteT K a xs.length) H1))
theorem pi_enumA {X : Cx} {e : Expr} {ta : TA} {p pos tpos : Pos} {elts : List Expr} {kk : Nat} (hg : Gl X "enumerate") (hm : X.mg "enumerate" = none) (ha : PA X [e] ta) (hs : starEach [e] X.env = [(false, eval e X.env)] := by rfl) :
    PI X (.Tuple elts kk tpos) (.Call (.Name "enumerate" p) [e] [] pos) (iEnumA X.K ta) := by
  refine ⟨fun pins s σ H R I h => ?_⟩
  refine Call_ (ld_blt I hg hm boot_enumerate (PyProof.Rows.callWith_type1 (thn (ha.run pos pins s σ H _ I h) fun us s1 ⟨vs, H1, I1, r1, q1⟩ => ?_) hs rfl))
  obtain ⟨a, xs, ex, q⟩ := q1
  subst ex
  cases r1 with
  | cons r rr =>
    cases rr
    cases r
    rcases q with ⟨hq, q⟩ | ⟨hq, q⟩
    · obtain ⟨its, rv, p', hz⟩ := I1.list hq
      refine call_enumerate_list p'.isList fun h' he hit hsz hk => wpAny_pyIter_enum he ?_
      have I2 : Inv X pins σ H1 { s1 with heap := h' } := I1.kept (t' := s1.toks) hk
      refine ⟨s1.heap.objs.size + 1, [s1.heap.objs.size + 1, s1.heap.objs.size], _, _, H1, rfl, I2, turn_enum a (s1.heap.objs.size + 1) s1.heap.objs.size, ⟨⟨.none, he⟩, hit, Nat.succ_ne_self _⟩, fun b hb => ?_, q⟩
      have e' : b = s1.heap.objs.size + 1 ∨ b = s1.heap.objs.size := by simpa using hb
      have hle : s1.heap.objs.size ≤ b := by
        rcases e' with z | z
        · rw [z]; exact Nat.le_add_right _ _
        · rw [z]; exact Nat.le_refl _
      exact I1.fpOk hle (I1.hok.fresh hle)
    · obtain ⟨its, rv, p', hz⟩ := I1.tuple hq
      have hal : a < s1.heap.objs.size := by obtain ⟨o, ho, _⟩ := p'; exact Heap.lt_size ho
      refine call_enumerate_tuple (show s1.heap.IsTuple a its.toArray from p') fun h' he hit hsz hk => wpAny_pyIter_enum he ?_
      have I2 : Inv X pins σ H1 { s1 with heap := h' } := I1.kept (t' := s1.toks) hk
      refine ⟨s1.heap.objs.size + 1, [s1.heap.objs.size + 1, s1.heap.objs.size], _, _, H1, rfl, I2, turn_enumT a (s1.heap.objs.size + 1) s1.heap.objs.size xs.length, ⟨⟨.none, he⟩, hit, Nat.succ_ne_self _, Nat.ne_of_lt (Nat.lt_succ_of_lt hal), Nat.ne_of_lt hal, Nat.zero_le _⟩, fun b hb => ?_, q⟩
      have e' : b = s1.heap.objs.size + 1 ∨ b = s1.heap.objs.size := by simpa using hb
      have hle : s1.heap.objs.size ≤ b := by
        rcases e' with z | z
        · rw [z]; exact Nat.le_add_right _ _
        · rw [z]; exact Nat.le_refl _
      exact I1.fpOk hle (I1.hok.fresh hle)
end Rg

namespace Rg
open PySem PySem.Spec PyProof.Rows L2

inductive PV where
  | non | bl (b : Bool) | int (i : Int) | str (s : Str) | tup (l : List PV) | lst (l : List PV) | ref (n : Nat)
  deriving Inhabited
/-- mutable things -/
inductive Cell where
  | lst (l : List PV) | dct (l : List (L2.Key × PV))
  /-- keys that are tuples of numbers, texts -/
  | dcT (l : List (List L2.Key × PV))
  /-- an object: its class, its attributes -/
  | obj (c : Str) (fs : List (Str × PV))
  /-- keys that are tuples, nested -/
  | dcN (l : List (NestedKey × PV))
  /-- a dict while it is walked: read, not written -/
  | fz (l : List (L2.Key × PV)) | fzN (l : List (NestedKey × PV))
  deriving Inhabited
abbrev MH := List Cell
inductive Er where | stuck | exc (c : Str) (h : MH)
abbrev R (α : Type) := Except Er α
abbrev Slts := List (Option PV)
abbrev Cal := String → List PV → MH → R (PV × MH)
abbrev Gls := Str → Option PV
def bnd {α β : Type} (x : R α) (f : α → R β) : R β := match x with | .ok a => f a | .error e => .error e
def stk {α : Type} : R α := .error .stuck
@[simp] theorem bnd_ok {α β : Type} (a : α) (f : α → R β) : bnd (.ok a) f = f a := rfl
@[simp] theorem bnd_stk {α β : Type} (f : α → R β) : bnd stk f = stk := rfl
@[simp] theorem bnd_err {α β : Type} (e : Er) (f : α → R β) : bnd (.error e) f = .error e := rfl
theorem bnd_eq_ok {α β : Type} {x : R α} {f : α → R β} {b : β} (h : bnd x f = .ok b) : ∃ a, x = .ok a ∧ f a = .ok b := by
  cases x with
  | ok a => exact ⟨a, rfl, h⟩
  | error e => cases h

inductive Tg where
  | name (i : Nat) | tup2 (a b : Tg) | tup3 (a b c : Tg) | tup4 (a b c d : Tg) | tup5 (a b c d e : Tg) | tup6 (a b c d e f : Tg)
inductive Bf where
  | len | abs | max2 | min2 | sum | any | all | intOf | strOf | list | tuple | sorted | maxL
  deriving DecidableEq
inductive Mf where
  | append | pop | clear | get1 | get2 | popd | extend
  deriving DecidableEq
/-- forms that make a new list -/
inductive Spf where
  | rng1 | rng2 | rev | copy
  deriving DecidableEq
/-- methods of texts -/
inductive Sf where
  | find | strip | join | split | partition | upper | isdigit
  deriving DecidableEq
inductive Ty where | int | bool | str | tuple | list
  deriving DecidableEq
mutual
inductive E where
  | var (i : Nat) | non | kbl (b : Bool) | kint (i : Int) | kstr (s : Str) | glb (x : Str)
  | bin (op : Operator) (a b : E) | cmp (op : CmpOp) (a b : E) | chn (o1 o2 : CmpOp) (a b c : E)
  | and (es : Es) | or (es : Es) | not (a : E) | neg (a : E) | ife (c a b : E)
  | idx (a b : E) | slc (a : E) (lo hi : Oe)
  | tup (es : Es) | lst (es : Es) | lstM (es : Es) | lrep (e : E) (n : Nat) | dnew | dnewT
  /-- o.get((k, ..), d) -/
  | getT (o : E) (ks : Es) (d : E)
  | callP (f : String) (es : Es) | callH (f : String) (es : Es)
  | blt (f : Bf) (es : Es) | isi (e : E) (t : Ty) | isiT (e : E) (ts : List Ty)
  | mth (m : Mf) (o : E) (es : Es)
  /-- an attribute, a method's call, a new object; a dict display -/
  | fld (c : Str) (e : E) (f : Str) | mcall (c nm : Str) (f : String) (o : E) (es : Es) | mcallD (c nm : Str) (f : String) (o : E) (es : Es) | make (f : String) (es : Es)
  | ddisp (ks : List L2.Key) (es : Es)
  /-- [e] * n; a method of an object of one of several classes -/
  | lrepD (e n : E) | mcallV (cs : List (Str × String)) (nm : Str) (dd : Bool) (o : E) (es : Es)
  /-- {} with keys that are nested tuples; d.get(k), d.get(k, x) of it -/
  | dnewN | getN (o : E) (es : Es)
  /-- list(range(..)), list(reversed(..)), ..: a new list, a cell or plain -/
  | spc1 (m : Bool) (f : Spf) (e : E) | spc2 (m : Bool) (a b : E)
  /-- a text's method -/
  | sth (f : Sf) (o : E) (es : Es)
  | comp (m : Bool) (elt : E) (tg : Tg) (it : It) (ifs : Es) (own : List (Str × Nat))
  /-- e, while the dict of the name i is locked -/
  | lck (i : Nat) (e : E)
  /-- t[::-1] of a tuple; len(set(l)) of a list of ints; l[lo::n] of a list -/
  | revT (e : E) | lenS (e : E) | slcS (a : E) (lo : Oe) (n : Nat)
  /-- sorted(l, key=g), f: the name of g as a key -/
  | srtK (e : E) (f : String)
inductive Es where | nil | cons (e : E) (es : Es)
inductive Oe where | no | yes (e : E)
inductive It where | seq (e : E) | rng1 (e : E) | rng2 (a b : E) | enm (e : E) | zip (a b : E)
  /-- a locked dict's keys -/
  | dks (e : E) | dksN (e : E)
end
/-- an except suite's expression: a plain one; a list or a tuple of isinstance tests of what is caught; a name's value and such a one behind it -/
inductive Xe where
  | e (x : E) | ts (m : Bool) (l : List (Bool × List Str)) | ad (j : Nat) (m : Bool) (l : List (Bool × List Str))
/-- an except clause: its class, its name, its suite -/
structure Hd where
  cl : Str
  nm : Option Nat
  su : List (Nat × Xe)
mutual
inductive S where
  | asg (t : Tg) (e : E) | aug (i : Nat) (e : E) | sub (o i e : E) | setT (o : E) (ks : Es) (e : E) | sfld (c : Str) (o : E) (f : Str) (e : E) | expr (e : E) | ret (e : E) | retN | iff (c : E) (a b : Ss)
  | forr (t : Tg) (it : It) (b : Ss) | whl (n : Nat) (c : E) (b : Ss) | pass | brk | cnt
  /-- a statement that is never reached -/
  | stop
  /-- s, while the dict of the name i is locked -/
  | lckS (i : Nat) (s : S)
  /-- s, while the dict with nested keys is locked that stands at a place of the name i -/
  | lckN (i : Nat) (js : List Nat) (s : S)
  | raise (c : Str) | tryS (b : Ss) (hs : List Hd)
  /-- o[i], x = e -/
  | asg2 (o i : E) (j : Nat) (e : E)
inductive Ss where | nil | cons (s : S) (ss : Ss)
end
inductive Fl where | nx | ret (v : PV) | bk | ct | ex (c : Str)

/-- a key: a whole number, a text -/
def keyP : PV → Option L2.Key
  | .int i => some (.inl i)
  | .str s => some (.inr s)
  | _ => none
/-- keys in order -/
def keyLt : L2.Key → L2.Key → Bool
  | .inl a, .inl b => decide (a < b)
  | .inr x, .inr y => decide (x.cps.toList < y.cps.toList)
  | .inl _, .inr _ => true
  | .inr _, .inl _ => false
def keyLe (a b : L2.Key) : Bool := !keyLt b a
def keyV : L2.Key → PV
  | .inl i => .int i
  | .inr s => .str s
def keysP : List PV → Option (List L2.Key)
  | [] => some []
  | v :: r => match keyP v, keysP r with | some k, some l => some (k :: l) | _, _ => none
def tupKeys : List PV → Option (List (L2.Key × PV))
  | [] => some []
  | .tup (x :: r) :: l => match keyP x, tupKeys l with | some k, some m => some ((k, .tup (x :: r)) :: m) | _, _ => none
  | _ :: _ => none
/-- all are numbers, or all are texts -/
def oneKind (l : List L2.Key) : Bool := l.all (·.isLeft) || l.all (·.isRight)
def valP {κ : Type} [DecidableEq κ] (l : List (κ × PV)) (k : κ) : Option PV := (l.find? fun kv => decide (kv.1 = k)).map (·.2)
def putP {κ : Type} [DecidableEq κ] (l : List (κ × PV)) (k : κ) (v : PV) : List (κ × PV) :=
  if (l.any fun kv => decide (kv.1 = k)) = true then l.map (fun kv => if kv.1 = k then (kv.1, v) else kv) else l ++ [(k, v)]
mutual
/-- a key, nested: no truths -/
def nkP : PV → Option NestedKey
  | .non => some .none
  | .int i => some (.num i)
  | .str s => some (.text s)
  | .tup l => match nkPs l with | some ks => some (.tup ks) | none => none
  | _ => none
def nkPs : List PV → Option (List NestedKey)
  | [] => some []
  | v :: r => match nkP v, nkPs r with | some k, some ks => some (k :: ks) | _, _ => none
end
mutual
def nkV : NestedKey → PV
  | .none => .non
  | .num i => .int i
  | .text s => .str s
  | .tup ks => .tup (nkVs ks)
def nkVs : List NestedKey → List PV
  | [] => []
  | k :: ks => nkV k :: nkVs ks
end
/-- a dict's key: a tuple, at most eight deep -/
def nkey : PV → Option NestedKey
  | .tup l => match nkPs l with | some ks => if (NestedKey.tup ks).depth ≤ 8 then some (.tup ks) else none | none => none
  | _ => none
def nview : PV → MH → Option (List (NestedKey × PV))
  | .ref n, h => match h[n]? with | some (.dcN l) => some l | _ => none
  | _, _ => none
def dview : PV → MH → Option (List (L2.Key × PV))
  | .ref n, h => match h[n]? with | some (.dct l) => some l | some (.fz l) => some l | _ => none
  | _, _ => none
/-- one that is not walked -/
def dview0 : PV → MH → Option (List (L2.Key × PV))
  | .ref n, h => match h[n]? with | some (.dct l) => some l | _ => none
  | _, _ => none
def tview : PV → MH → Option (List (List L2.Key × PV))
  | .ref n, h => match h[n]? with | some (.dcT l) => some l | _ => none
  | _, _ => none
/-- a list's items: a plain one, a cell's -/
def lview : PV → MH → Option (List PV)
  | .lst l, _ => some l
  | .ref n, h => match h[n]? with | some (.lst l) => some l | _ => none
  | _, _ => none
def intsP : List PV → Option (List Int)
  | [] => some []
  | .int i :: r => match intsP r with | some l => some (i :: l) | none => none
  | _ :: _ => none
/-- tuples of ints, from the first pair that differs on; z: of the lengths that are left -/
def lexC (r : Int → Int → Bool) (z : Nat → Nat → Bool) : List Int → List Int → Bool
  | x :: xs, y :: ys => if x = y then lexC r z xs ys else r x y
  | xs, ys => z xs.length ys.length
def ltT (a b : List Int) : Bool := lexC (fun a b => decide (a < b)) (fun a b => decide (a < b)) a b
def leT (a b : List Int) : Bool := !ltT b a
/-- a tuple's key: its whole numbers; or a whole number and those of the tuple behind it -/
def keyT : PV → Option (List Int × Bool)
  | .tup (.int e :: .tup l :: _) => match intsP l with | some ns => some (e :: ns, true) | none => none
  | .tup l => match intsP l with | some ns => some (ns, false) | none => none
  | _ => none
def keysT (f : Bool) (n : Nat) : List PV → Option (List (List Int × PV))
  | [] => some []
  | v :: r => match keyT v, keysT f n r with | some (k, g), some l => if g = f ∧ k.length = n then some ((k, v) :: l) else none | _, _ => none
def sortT (l : List PV) : R PV := match l with
  | [] => .ok (.lst [])
  | v :: _ => match keyT v with
    | some (k, f) => match keysT f k.length l with
      | some kl => if 0 < k.length ∧ (kl.map (·.1)).Nodup then .ok (.lst ((kl.mergeSort fun a b => leT a.1 b.1).map (·.2))) else stk
      | none => stk
    | none => stk
def sortop (v : PV) (h : MH) : R PV := match dview v h with
  | some l => if oneKind (l.map (·.1)) = true ∧ l.length < 64 then .ok (.lst (((l.map (·.1)).mergeSort keyLe).map keyV)) else stk
  | none => match lview v h with
    | some l => (match keysP l with
      | some ks => if oneKind ks = true ∧ ks.length < 64 then .ok (.lst ((ks.mergeSort keyLe).map keyV)) else stk
      | none => (match tupKeys l with
        | some kl => if oneKind (kl.map (·.1)) = true ∧ (kl.map (·.1)).Nodup then .ok (.lst ((kl.mergeSort fun a b => keyLe a.1 b.1).map (·.2))) else sortT l
        | none => sortT l))
    | none => match nview v h with
      | some l => sortT (l.map fun p => nkV p.1)
      | none => stk
/-- a sequence's items: a tuple's, too -/
def sview : PV → MH → Option (List PV)
  | .tup l, _ => some l
  | .lst l, _ => some l
  | .ref n, h => match h[n]? with | some (.lst l) => some l | _ => none
  | _, _ => none
mutual
/-- the very same -/
def same : PV → PV → Bool
  | .non, .non => true
  | .bl a, .bl b => a == b
  | .int a, .int b => a == b
  | .str a, .str b => decide (a = b)
  | .tup a, .tup b => sames a b
  | .lst a, .lst b => sames a b
  | .ref a, .ref b => a == b
  | _, _ => false
def sames : List PV → List PV → Bool
  | [], [] => true
  | a :: r, b :: s => same a b && sames r s
  | _, _ => false
end
/-- the cells that are walked, with their items -/
abbrev Lk := List (Nat × List PV)
def lkOk : Lk → MH → Bool
  | [], _ => true
  | (n, l) :: r, h => (match h[n]? with | some (.lst m) => sames m l | _ => false) && lkOk r h
@[simp] theorem lkOk_nil (h : MH) : lkOk [] h = true := rfl
/-- a list's items, and the cell that must stay -/
def wview : PV → MH → Option (List PV × Lk)
  | .lst l, _ => some (l, [])
  | .ref n, h => match h[n]? with | some (.lst l) => some (l, [(n, l)]) | _ => none
  | _, _ => none
def truth : PV → MH → Option Bool
  | .non, _ => some false
  | .bl b, _ => some b
  | .int i, _ => some (i != 0)
  | .str s, _ => some ((s.length : Int) != 0)
  | .tup l, _ => some (!l.isEmpty)
  | .lst l, _ => some (!l.isEmpty)
  | .ref n, h => match h[n]? with | some (.lst l) => some (!l.isEmpty) | _ => none
/-- a cell's list as a plain one (at the top alone) -/
def snap (h : MH) : PV → PV
  | .ref n => match h[n]? with | some (.lst l) => .lst l | _ => .ref n
  | v => v
mutual
def noRef : PV → Bool
  | .ref _ => false
  | .tup l => noRefs l
  | .lst l => noRefs l
  | _ => true
def noRefs : List PV → Bool
  | [] => true
  | v :: r => noRef v && noRefs r
end
mutual
/-- no list anywhere -/
def noLst : PV → Bool
  | .ref _ => false
  | .tup l => noLsts l
  | .lst _ => false
  | _ => true
def noLsts : List PV → Bool
  | [] => true
  | v :: r => noLst v && noLsts r
end
mutual
def dep : PV → Nat
  | .tup l => deps l + 1
  | .lst l => deps l + 1
  | _ => 0
def deps : List PV → Nat
  | [] => 0
  | v :: r => max (dep v) (deps r)
end
mutual
def toD : PV → PyData
  | .non => .none
  | .bl b => .bool b
  | .int i => .int i
  | .str s => .str s
  | .tup l => .tuple (toDs l)
  | .lst l => .list (toDs l)
  | .ref _ => .none
def toDs : List PV → List PyData
  | [] => []
  | v :: r => toD v :: toDs r
end
mutual
/-- == -/
def peq : PV → PV → Bool
  | .non, .non => true
  | .bl a, .bl b => a == b
  | .bl a, .int j => (if a then 1 else 0) == j
  | .int i, .bl b => i == (if b then 1 else 0)
  | .int i, .int j => i == j
  | .str x, .str y => x == y
  | .lst xs, .lst ys => peqs xs ys
  | .tup xs, .tup ys => peqs xs ys
  | _, _ => false
def peqs : List PV → List PV → Bool
  | [], [] => true
  | x :: xs, y :: ys => peq x y && peqs xs ys
  | _, _ => false
end
/-- a list of lists that change -/
def snapD (h : MH) (v : PV) : PV := match snap h v with
  | .lst l => .lst (l.map (snap h))
  | w => w
def eqop (a b : PV) (h : MH) : R Bool :=
  if noRef (snap h a) = true ∧ noRef (snap h b) = true ∧ min (dep (snap h a)) (dep (snap h b)) ≤ 64 then .ok (peq (snap h a) (snap h b))
  else if noRef (snapD h a) = true ∧ noRef (snapD h b) = true ∧ min (dep (snapD h a)) (dep (snapD h b)) ≤ 64 then .ok (peq (snapD h a) (snapD h b)) else stk
def isop : PV → PV → R Bool
  | .non, .non => .ok true
  | .bl _, .non => .ok false
  | .int _, .non => .ok false
  | .str _, .non => .ok false
  | .tup _, .non => .ok false
  | .lst _, .non => .ok false
  | .ref _, .non => .ok false
  | .bl a, .bl b => .ok (a == b)
  | _, _ => stk
def flatP : PV → Bool
  | .non | .bl _ | .int _ | .str _ => true
  | _ => false
def inopS (x y : PV) (h : MH) : R Bool := match y with
  | .str s => match x with
    | .str z => .ok (!(Builtin.Str.occurrences s z 0 s.length 1).isEmpty)
    | _ => stk
  | .ref _ | .lst _ | .tup _ => match sview y h with
    | some l => if flatP x = true ∧ l.all flatP = true then .ok (l.any fun z => peq z x) else if noRef x = true ∧ noRefs l = true ∧ dep x ≤ 60 then .ok (l.any fun z => peq z x) else stk
    | none => stk
  | _ => stk
def inop (x y : PV) (h : MH) : R Bool := match dview y h with
  | some l => (match keyP x with | some k => .ok (valP l k).isSome | none => stk)
  | none => match nview y h with
    | some l => (match nkey x with | some k => .ok (valP l k).isSome | none => stk)
    | none => inopS x y h
/-- two pairs: a whole number and a tuple of such -/
def leN : List PV → List PV → R Bool
  | [.int e, .tup l], [.int e', .tup m] => match intsP l, intsP m with
    | some l, some m => .ok (if e = e' then lexC (fun a b => decide (a ≤ b)) (fun a b => decide (a ≤ b)) l m else decide (e ≤ e'))
    | _, _ => stk
  | _, _ => stk
def cmpop (op : CmpOp) (a b : PV) (h : MH) : R Bool := match op with
  | .Eq => eqop a b h
  | .NotEq => bnd (eqop a b h) fun r => .ok (!r)
  | .Is => isop a b
  | .IsNot => bnd (isop a b) fun r => .ok (!r)
  | .In => inop a b h
  | .NotIn => bnd (inop a b h) fun r => .ok (!r)
  | .Lt => match a, b with
    | .int i, .int j => .ok (decide (i < j))
    | .tup l, .tup m => match intsP l, intsP m with | some l, some m => .ok (lexC (fun a b => decide (a < b)) (fun a b => decide (a < b)) l m) | _, _ => stk
    | _, _ => stk
  | .LtE => match a, b with
    | .int i, .int j => .ok (decide (i ≤ j))
    | .tup l, .tup m => match intsP l, intsP m with | some l, some m => .ok (lexC (fun a b => decide (a ≤ b)) (fun a b => decide (a ≤ b)) l m) | _, _ => leN l m
    | _, _ => stk
  | .Gt => match a, b with
    | .int i, .int j => .ok (decide (j < i))
    | .tup l, .tup m => match intsP l, intsP m with | some l, some m => .ok (lexC (fun a b => decide (b < a)) (fun a b => decide (b < a)) l m) | _, _ => stk
    | _, _ => stk
  | .GtE => match a, b with
    | .int i, .int j => .ok (decide (j ≤ i))
    | .tup l, .tup m => match intsP l, intsP m with | some l, some m => .ok (lexC (fun a b => decide (b ≤ a)) (fun a b => decide (b ≤ a)) l m) | _, _ => stk
    | _, _ => stk
def big : Nat := 1000000
def binop (op : Operator) (a b : PV) (h : MH) : R PV := match op with
  | .Add => match a, b with
    | .int i, .int j => .ok (.int (i + j))
    | .str s, .str t => if s.length + t.length ≤ big then .ok (.str (s ++ t)) else stk
    | .tup l, .tup m => if l.length + m.length ≤ big then .ok (.tup (l ++ m)) else stk
    | .lst l, .lst m => if l.length + m.length ≤ big then .ok (.lst (l ++ m)) else stk
    | _, _ => stk
  | .Sub => match a, b with | .int i, .int j => .ok (.int (i - j)) | _, _ => stk
  | .Mult => match a, b with
    | .int i, .int j => if i.natAbs.log2 + j.natAbs.log2 < 100000000 then .ok (.int (i * j)) else stk
    | _, _ => stk
  | .FloorDiv => match a, b with
    | .int i, .int j => if 0 < j ∧ j.natAbs.log2 < 9000 then .ok (.int (i / j)) else stk
    | _, _ => stk
  | .Mod => match a, b with
    | .int i, .int j => if 0 < j then .ok (.int (i % j)) else stk
    | _, _ => stk
  | .Pow => match a, b with
    | .int i, .int j => if 0 ≤ j ∧ j ≤ 1000000 ∧ i.natAbs < 2 ^ 64 then .ok (.int (i ^ j.toNat)) else stk
    | _, _ => stk
  | .LShift => match a, b with
    | .int i, .int j => if 0 ≤ j ∧ j ≤ 1000000 ∧ i.natAbs < 2 ^ 64 then .ok (.int (i * 2 ^ j.toNat)) else stk
    | _, _ => stk
  | .RShift => match a, b with
    | .int i, .int j => if 0 ≤ j then .ok (.int (i / 2 ^ j.toNat)) else stk
    | _, _ => stk
  | .BitAnd => match a, b with | .int i, .int j => .ok (.int (Builtin.bitAnd i j)) | _, _ => stk
  | .BitOr => match a, b with | .int i, .int j => .ok (.int (Builtin.bitOr i j)) | _, _ => stk
  | _ => stk
def idxopS (a b : PV) (h : MH) : R PV := match b with
  | .int i => match a with
    | .str s => match L2.atI s.cps.toList i with | some c => .ok (.str ⟨#[c]⟩) | none => stk
    | _ => match sview a h with
      | some l => match L2.atI l i with | some v => .ok v | none => stk
      | none => stk
  | _ => stk
def idxop (a b : PV) (h : MH) : R PV := match dview a h with
  | some l => (match keyP b with | some k => (match valP l k with | some v => .ok v | none => stk) | none => stk)
  | none => match nview a h with
    | some l => (match nkey b with | some k => (match valP l k with | some v => .ok v | none => stk) | none => stk)
    | none => idxopS a b h
def cutP (xs : List PV) (lo hi : Option Int) : List PV := (xs.drop (HT.sIx xs.length 0 lo)).take (HT.sIx xs.length xs.length hi - HT.sIx xs.length 0 lo)
/-- each int once, as first met -/
def dedI (ns : List Int) : List Int := ns.foldl (fun acc k => if acc.any (· == k) then acc else acc ++ [k]) []
/-- l[lo::n] -/
def stepP {α : Type} (l : List α) (lo : Option Int) (n : Nat) : List α := (sliceRange (sliceBounds lo none (some (n : Int)) l.length).1 (sliceBounds lo none (some (n : Int)) l.length).2.1 (sliceBounds lo none (some (n : Int)) l.length).2.2).filterMap (l[·]?)
def slcop (a : PV) (lo hi : Option Int) (h : MH) : R PV := match a with
  | .str s => .ok (.str (L2.cutS s lo hi))
  | .tup l => .ok (.tup (cutP l lo hi))
  | _ => match lview a h with
    | some l => .ok (.lst (cutP l lo hi))
    | none => stk
def tyOk : PV → MH → Ty → Option Bool
  | .non, _, _ => some false
  | .bl _, _, t => some (t == .int || t == .bool)
  | .int _, _, t => some (t == .int)
  | .str _, _, t => some (t == .str)
  | .tup _, _, t => some (t == .tuple)
  | .lst _, _, t => some (t == .list)
  | .ref n, h, t => match h[n]? with | some (.lst _) => some (t == .list) | some (.dct _) => some false | _ => none
def tyAny (v : PV) (h : MH) : List Ty → Option Bool
  | [] => some false
  | t :: ts => match tyOk v h t, tyAny v h ts with | some a, some b => some (a || b) | _, _ => none
def bls : List PV → Option (List Bool)
  | [] => some []
  | .bl i :: r => match bls r with | some l => some (i :: l) | none => none
  | _ :: _ => none
def maxI : Int → List Int → Int
  | n, [] => n
  | n, m :: r => maxI (if n < m then m else n) r
def prsP : List PV → Option (List (Int × Int))
  | [] => some []
  | .tup [.int a, .int b] :: r => match prsP r with | some l => some ((a, b) :: l) | none => none
  | _ :: _ => none
def maxPr : Int × Int → List (Int × Int) → Int × Int
  | p, [] => p
  | p, q :: r => maxPr (if (if p.1 = q.1 then decide (p.2 < q.2) else decide (p.1 < q.1)) = true then q else p) r
/-- the number that figures write -/
def numOf (cs : List Nat) : Nat := cs.foldl (fun acc c => acc * 10 + (c - 48)) 0
def bltop (f : Bf) (vs : List PV) (h : MH) : R PV := match f with
  | .len => match vs with
    | [.str s] => .ok (.int s.length)
    | [v] => match sview v h with | some l => .ok (.int l.length) | none => (match dview0 v h with | some l => .ok (.int l.length) | none => stk)
    | _ => stk
  | .abs => match vs with | [.int i] => .ok (.int (if i < 0 then -i else i)) | _ => stk
  | .max2 => match vs with | [.int i, .int j] => .ok (.int (if j > i then j else i)) | _ => stk
  | .min2 => match vs with | [.int i, .int j] => .ok (.int (if j < i then j else i)) | _ => stk
  | .maxL => match vs with
    | [v] => match lview v h with
      | some l => (match intsP l with
        | some (n :: ns) => .ok (.int (maxI n ns))
        | _ => (match prsP l with | some (p :: ps) => .ok (.tup [.int (maxPr p ps).1, .int (maxPr p ps).2]) | _ => stk))
      | none => stk
    | _ => stk
  | .sum => match vs with
    | [v] => match lview v h with | some l => (match intsP l with | some ns => .ok (.int ns.sum) | none => stk) | none => stk
    | _ => stk
  | .any => match vs with
    | [v] => match lview v h with | some l => (match bls l with | some ns => .ok (.bl (ns.any id)) | none => stk) | none => stk
    | _ => stk
  | .all => match vs with
    | [v] => match lview v h with | some l => (match bls l with | some ns => .ok (.bl (ns.all id)) | none => stk) | none => stk
    | _ => stk
  | .intOf => match vs with
    | [.int i] => .ok (.int i)
    | [.bl b] => .ok (.int (if b then 1 else 0))
    | [.str s] => if s.length ≤ 640 ∧ s.cps.toList.isEmpty = false ∧ s.cps.toList.all (fun c => decide (48 ≤ c) && decide (c ≤ 57)) = true then .ok (.int ((numOf s.cps.toList : Nat) : Int)) else stk
    | _ => stk
  | .strOf => match vs with | [.int i] => if i.natAbs.log2 < 1920 ∧ (Str.ofString (toString i)).length ≤ big then .ok (.str (Str.ofString (toString i))) else stk | [.str s] => .ok (.str s) | _ => stk
  | .list => match vs with
    | [v] => match sview v h with
      | some l => .ok (.lst l)
      | none => (match dview0 v h with | some l => .ok (.lst (l.map fun p => keyV p.1)) | none => stk)
    | _ => stk
  | .tuple => match vs with
    | [v] => match sview v h with | some l => .ok (.tup l) | none => stk
    | _ => stk
  | .sorted => match vs with | [v] => sortop v h | _ => stk
def isLs : PV → MH → Bool
  | .ref n, h => match h[n]? with | some (.lst _) => true | _ => false
  | _, _ => false
def isDc : PV → MH → Bool
  | .ref n, h => match h[n]? with | some (.dct _) => true | _ => false
  | _, _ => false
/-- what a method is asked of -/
def mthTy (m : Mf) (o : PV) (h : MH) : Bool := match m with
  | .append | .pop | .clear | .extend => isLs o h
  | .get1 | .get2 | .popd => isDc o h
def mthAr : Mf → Nat
  | .append => 1 | .pop => 0 | .clear => 0 | .get1 => 1 | .get2 => 2 | .popd => 2 | .extend => 1
def mthop (m : Mf) (o : PV) (vs : List PV) (h : MH) : R (PV × MH) := match m with
  | .append => match o, vs with
    | .ref n, [v] => match h[n]? with
      | some (.lst l) => if l.length < big then .ok (.non, h.set n (.lst (l ++ [v]))) else stk
      | _ => stk
    | _, _ => stk
  | .pop => match o, vs with
    | .ref n, [] => match h[n]? with
      | some (.lst l) => (match l.getLast? with | some v => .ok (v, h.set n (.lst l.dropLast)) | none => stk)
      | _ => stk
    | _, _ => stk
  | .clear => match o, vs with
    | .ref n, [] => match h[n]? with
      | some (.lst _) => .ok (.non, h.set n (.lst []))
      | _ => stk
    | _, _ => stk
  | .get1 => match dview o h, vs with
    | some l, [y] => (match keyP y with | some k => .ok ((valP l k).getD .non, h) | none => stk)
    | _, _ => stk
  | .get2 => match dview o h, vs with
    | some l, [y, d] => (match keyP y with | some k => .ok ((valP l k).getD d, h) | none => stk)
    | _, _ => stk
  | .popd => match o, vs with
    | .ref n, [y, d] => match h[n]? with
      | some (.dct l) => (match keyP y with
        | some k => (match valP l k with | some v => .ok (v, h.set n (.dct (l.filter fun kv => decide (kv.1 ≠ k)))) | none => .ok (d, h))
        | none => stk)
      | _ => stk
    | _, _ => stk
  | .extend => match o, vs with
    | .ref n, [v] => match h[n]? with
      | some (.lst l) => (match v, lview v h with
        | .ref m, some r => if m ≠ n ∧ l.length + r.length ≤ big then .ok (.non, h.set n (.lst (l ++ r))) else stk
        | .lst _, some r => if l.length + r.length ≤ big then .ok (.non, h.set n (.lst (l ++ r))) else stk
        | _, _ => stk)
      | _ => stk
    | _, _ => stk

/-- o[i] = v -/
def setop (o i v : PV) (h : MH) : R MH := match o with
  | .ref n => match h[n]? with
    | some (.lst l) => (match i with
      | .int k => (match L2.ixN l.length k with | some j => .ok (h.set n (.lst (l.set j v))) | none => stk)
      | _ => stk)
    | some (.dct l) => (match keyP i with
      | some k => if l.length < big then .ok (h.set n (.dct (putP l k v))) else stk
      | none => stk)
    | some (.dcN l) => (match nkey i with
      | some k => if l.length < big then .ok (h.set n (.dcN (putP l k v))) else stk
      | none => stk)
    | _ => stk
  | _ => stk

def setopT (o : PV) (ks : List PV) (v : PV) (h : MH) : R MH := match o with
  | .ref n => match h[n]? with
    | some (.dcT l) => (match keysP ks with
      | some k => if l.length < big then .ok (h.set n (.dcT (putP l k v))) else stk
      | none => stk)
    | _ => stk
  | _ => stk

/-- the attributes of an object of a class -/
def oview (c : Str) : PV → MH → Option (List (Str × PV))
  | .ref n, h => match h[n]? with | some (.obj d fs) => if d = c then some fs else none | _ => none
  | _, _ => none
def putFP (f : Str) (v : PV) : List (Str × PV) → List (Str × PV)
  | [] => [(f, v)]
  | (g, x) :: r => if g = f then (g, v) :: r else (g, x) :: putFP f v r
def setfld (c : Str) (o : PV) (f : Str) (v : PV) (h : MH) : R MH := match o with
  | .ref n => match oview c (.ref n) h with
    | some fs => if fs.length < 900 then .ok (h.set n (.obj c (putFP f v fs))) else stk
    | none => stk
  | _ => stk
def fldop (c : Str) (o : PV) (f : Str) (h : MH) : R PV := match oview c o h with
  | some fs => match fs.lookup f with | some v => .ok v | none => stk
  | none => stk
/-- a method's object: no attribute has the method's name -/
def isOb (c nm : Str) (o : PV) (h : MH) : Bool := match oview c o h with
  | some fs => (fs.lookup nm).isNone
  | none => false
/-- an object's class -/
def clsOf : PV → MH → Option Str
  | .ref n, h => match h[n]? with | some (.obj d _) => some d | _ => none
  | _, _ => none
/-- what a display makes: keys once each -/
def dispop (n : Nat) (ks : List L2.Key) (vs : List PV) (h : MH) : R MH := match h[n]? with
  | some (.dct []) => if vs.length = ks.length then .ok (h.set n (.dct (ks.zip vs))) else stk
  | _ => stk
/-- d.get(k), d.get(k, x): keys nested -/
def getopN (o : PV) (vs : List PV) (h : MH) : R PV := match nview o h, vs with
  | some l, [y] => (match nkey y with | some k => .ok ((valP l k).getD .non) | none => stk)
  | some l, [y, d] => (match nkey y with | some k => .ok ((valP l k).getD d) | none => stk)
  | _, _ => stk
/-- the items of a new list -/
def spcop (f : Spf) (vs : List PV) (h : MH) : R (List PV) := match f, vs with
  | .rng1, [.int j] => if -1000000 ≤ j ∧ j ≤ 1000000 then .ok ((List.range j.toNat).map fun i => .int (i : Nat)) else stk
  | .rng2, [.int i, .int j] => if -1000000 ≤ i ∧ i ≤ 1000000 ∧ -1000000 ≤ j ∧ j ≤ 1000000 then .ok ((List.range (j - i).toNat).map fun k => .int (i + (k : Nat))) else stk
  | .rev, [v] => (match lview v h with | some l => .ok l.reverse | none => stk)
  | .copy, [v] => (match sview v h with | some l => .ok l | none => stk)
  | _, _ => stk
def strsP : List PV → Option (List Str)
  | [] => some []
  | .str s :: r => (match strsP r with | some l => some (s :: l) | none => none)
  | _ :: _ => none
def goodS (s : Str) : Bool := decide (s.length ≤ big) && PyData.strOk s
def sthop (f : Sf) (o : PV) (vs : List PV) (h : MH) : R PV := match o with
  | .str a => (match f with
    | .find => (match vs with | [.str b] => .ok (.int (Txt.find a b)) | _ => stk)
    | .strip => (match vs with | [.str b] => if goodS (Txt.stripChars a b) = true then .ok (.str (Txt.stripChars a b)) else stk | _ => stk)
    | .join => (match vs with
      | [v] => (match sview v h with
        | some l => (match strsP l with
          | some ys => if (ys.map (·.length)).sum + ys.length * a.length ≤ big ∧ goodS (Txt.join a ys) = true then .ok (.str (Txt.join a ys)) else stk
          | none => stk)
        | none => stk)
      | _ => stk)
    | .split => (match vs with | [.str b] => if (b.length == 0) = false ∧ a.length + 2 ≤ big ∧ (Txt.split a b).all goodS = true then .ok (.lst ((Txt.split a b).map .str)) else stk | _ => stk)
    | .partition => (match vs with
      | [.str b] => if (b.length == 0) = false ∧ goodS (Txt.partition a b).1 = true ∧ goodS (Txt.partition a b).2.1 = true ∧ goodS (Txt.partition a b).2.2 = true then .ok (.tup [.str (Txt.partition a b).1, .str (Txt.partition a b).2.1, .str (Txt.partition a b).2.2]) else stk
      | _ => stk)
    | .upper => (match vs with | [] => if a.length ≤ 1000 ∧ goodS (Txt.upper a) = true then .ok (.str (Txt.upper a)) else stk | _ => stk)
    | .isdigit => (match vs with | [] => .ok (.bl (Txt.isdigit a)) | _ => stk))
  | _ => stk
def isNon : PV → Bool
  | .non => true
  | _ => false
def bindT : Tg → PV → Slts → R Slts
  | .name i, v, ρ => .ok (ρ.set i (some v))
  | .tup2 a b, v, ρ => match v with
    | .tup [x, y] => bnd (bindT a x ρ) (bindT b y)
    | .lst [x, y] => bnd (bindT a x ρ) (bindT b y)
    | _ => stk
  | .tup3 a b c, v, ρ => match v with
    | .tup [x, y, z] => bnd (bindT a x ρ) fun ρ => bnd (bindT b y ρ) (bindT c z)
    | _ => stk
  | .tup4 a b c d, v, ρ => match v with
    | .tup [x, y, z, w] => bnd (bindT a x ρ) fun ρ => bnd (bindT b y ρ) fun ρ => bnd (bindT c z ρ) (bindT d w)
    | _ => stk
  | .tup5 a b c d e, v, ρ => match v with
    | .tup [x, y, z, w, u] => bnd (bindT a x ρ) fun ρ => bnd (bindT b y ρ) fun ρ => bnd (bindT c z ρ) fun ρ => bnd (bindT d w ρ) (bindT e u)
    | _ => stk
  | .tup6 a b c d e f, v, ρ => match v with
    | .tup [x, y, z, w, u, t] => bnd (bindT a x ρ) fun ρ => bnd (bindT b y ρ) fun ρ => bnd (bindT c z ρ) fun ρ => bnd (bindT d w ρ) fun ρ => bnd (bindT e u ρ) (bindT f t)
    | _ => stk
def wipeP (ρ : Slts) : List Nat → Slts
  | [] => ρ
  | v :: vs => (wipeP ρ vs).set v none
/-- a comprehension's loop: f gives an item or nothing -/
def compL (f : PV → MH → R (Option PV × MH)) (lk : Lk) : List PV → MH → List PV → R (List PV × MH)
  | [], h, acc => if lkOk lk h = true then .ok (acc, h) else stk
  | x :: xs, h, acc => if lkOk lk h = true then bnd (f x h) fun r => match r.1 with
    | some v => if acc.length < big then compL f lk xs r.2 (acc ++ [v]) else stk
    | none => compL f lk xs r.2 acc
    else stk
def forL (f : PV → Slts → MH → R (Fl × Slts × MH)) (lk : Lk) : List PV → Slts → MH → R (Fl × Slts × MH)
  | [], ρ, h => if lkOk lk h = true then .ok (.nx, ρ, h) else stk
  | x :: xs, ρ, h => if lkOk lk h = true then bnd (f x ρ h) fun r => match r.1 with
    | .nx => forL f lk xs r.2.1 r.2.2
    | .ct => forL f lk xs r.2.1 r.2.2
    | .bk => .ok (.nx, r.2)
    | .ret v => .ok (.ret v, r.2)
    | .ex c => .ok (.ex c, r.2)
    else stk
/-- b gives none where the test fails -/
def whlL (f : Slts → MH → R (Option Fl × Slts × MH)) : Nat → Slts → MH → R (Fl × Slts × MH)
  | 0, _, _ => stk
  | n + 1, ρ, h => bnd (f ρ h) fun r => match r.1 with
    | none => .ok (.nx, r.2)
    | some .nx => whlL f n r.2.1 r.2.2
    | some .ct => whlL f n r.2.1 r.2.2
    | some .bk => .ok (.nx, r.2)
    | some (.ret v) => .ok (.ret v, r.2)
    | some (.ex c) => .ok (.ex c, r.2)
def truR (v : PV) (h : MH) : R Bool := match truth v h with | some b => .ok b | none => stk
def noEx {α : Type} (x : R α) : R α := match x with | .ok a => .ok a | .error _ => stk
def enumP : Nat → List PV → List PV
  | _, [] => []
  | k, x :: xs => .tup [.int k, x] :: enumP (k + 1) xs
def zipP : List PV → List PV → List PV
  | x :: xs, y :: ys => .tup [x, y] :: zipP xs ys
  | _, _ => []
/-- lo, lo + 1, .. (n of them) -/
def rngP : Nat → Int → List PV
  | 0, _ => []
  | n + 1, lo => .int lo :: rngP n (lo + 1)
def rngOk (i : Int) : Bool := Nat.ble i.natAbs 1000000000000000000

def frz (h : MH) : PV → PV
  | .ref n => match h[n]? with | some (.lst l) => .lst l | _ => .ref n
  | v => v
/-- a list of its own, with no list in it -/
def frsh (h : MH) : PV → Bool
  | .ref n => match h[n]? with | some (.lst l) => noLsts l | _ => false
  | _ => false
def callPl (cal : Cal) (f : String) (vs : List PV) (h : MH) : R (PV × MH) :=
  if noRefs (vs.map (snap h)) = true then
    match cal f (vs.map (snap h)) [] with
    | .ok (v, h') => if noRef (frz h' v) = true ∧ (noRefs vs = true ∨ noLst (frz h' v) = true ∨ frsh h' v = true) then .ok (frz h' v, h) else stk
    | .error .stuck => stk
    | .error (.exc c _) => .error (.exc c h)
  else stk

/-- the keys of a list's items, one behind another -/
def keysK (cal : Cal) (f : String) : List PV → MH → R (List Int × MH)
  | [], h => .ok ([], h)
  | v :: l, h => match cal f [v] h with
    | .ok (.int i, h') => bnd (keysK cal f l h') fun y => .ok (i :: y.1, y.2)
    | _ => stk
def sortK (ks : List Int) (l : List PV) : List PV := ((ks.zip l).mergeSort fun p q => decide (p.1 ≤ q.1)).map (·.2)
section
variable (cal : Cal) (gl : Gls)
mutual
def evE : E → Slts → MH → R (PV × MH)
  | .var i, ρ, h => match ρ[i]? with | some (some v) => .ok (v, h) | _ => stk
  | .non, _, h => .ok (.non, h)
  | .kbl b, _, h => .ok (.bl b, h)
  | .kint i, _, h => .ok (.int i, h)
  | .kstr s, _, h => .ok (.str s, h)
  | .glb x, _, h => match gl x with | some v => .ok (v, h) | none => stk
  | .bin op a b, ρ, h => bnd (evE a ρ h) fun x => bnd (evE b ρ x.2) fun y => bnd (binop op x.1 y.1 y.2) fun v => .ok (v, y.2)
  | .cmp op a b, ρ, h => bnd (evE a ρ h) fun x => bnd (evE b ρ x.2) fun y => bnd (cmpop op x.1 y.1 y.2) fun v => .ok (.bl v, y.2)
  | .chn o1 o2 a b c, ρ, h => bnd (evE a ρ h) fun x => bnd (evE b ρ x.2) fun y => bnd (cmpop o1 x.1 y.1 y.2) fun v =>
    if v = true then bnd (evE c ρ y.2) fun z => bnd (cmpop o2 y.1 z.1 z.2) fun v => .ok (.bl v, z.2) else .ok (.bl false, y.2)
  | .and es, ρ, h => evAnd es ρ h
  | .or es, ρ, h => evOr es ρ h
  | .not a, ρ, h => bnd (evE a ρ h) fun x => bnd (truR x.1 x.2) fun b => .ok (.bl (!b), x.2)
  | .neg a, ρ, h => bnd (evE a ρ h) fun x => match x.1 with | .int i => .ok (.int (-i), x.2) | _ => stk
  | .ife c a b, ρ, h => bnd (evE c ρ h) fun x => bnd (truR x.1 x.2) fun t => if t = true then evE a ρ x.2 else evE b ρ x.2
  | .idx a b, ρ, h => bnd (evE a ρ h) fun x => bnd (evE b ρ x.2) fun y => bnd (idxop x.1 y.1 y.2) fun v => .ok (v, y.2)
  | .revT e, ρ, h => bnd (evE e ρ h) fun x => match x.1 with | .tup l => .ok (.tup l.reverse, x.2) | _ => stk
  | .lenS e, ρ, h => bnd (evE e ρ h) fun x => match lview x.1 x.2 with
    | some l => (match intsP l with | some ns => if ns.length ≤ 4000 then .ok (.int ((dedI ns).length : Nat), x.2) else stk | none => stk)
    | none => stk
  | .srtK e f, ρ, h => bnd (evE e ρ h) fun x => match lview x.1 x.2 with
    | some l => bnd (keysK cal f l x.2) fun ks => .ok (.lst (sortK ks.1 l), ks.2)
    | none => stk
  | .slcS a lo n, ρ, h => bnd (evE a ρ h) fun x => bnd (evO lo ρ x.2) fun y => match lview x.1 y.2 with | some l => .ok (.lst (stepP l y.1 n), y.2) | none => stk
  | .slc a lo hi, ρ, h => bnd (evE a ρ h) fun x => bnd (evO lo ρ x.2) fun y => bnd (evO hi ρ y.2) fun z => bnd (slcop x.1 y.1 z.1 z.2) fun v => .ok (v, z.2)
  | .tup es, ρ, h => bnd (evEs es ρ h) fun x => .ok (.tup x.1, x.2)
  | .lst es, ρ, h => bnd (evEs es ρ h) fun x => .ok (.lst x.1, x.2)
  | .lstM es, ρ, h => bnd (evEs es ρ h) fun x => .ok (.ref x.2.length, x.2 ++ [.lst x.1])
  | .lrep e n, ρ, h => bnd (evE e ρ h) fun x => .ok (.ref x.2.length, x.2 ++ [.lst (List.replicate n x.1)])
  | .dnew, _, h => .ok (.ref h.length, h ++ [.dct []])
  | .dnewT, _, h => .ok (.ref h.length, h ++ [.dcT []])
  | .getT o ks d, ρ, h => bnd (evE o ρ h) fun x => if (tview x.1 x.2).isSome = true then bnd (evEs ks ρ x.2) fun y => bnd (evE d ρ y.2) fun z => match tview x.1 z.2, keysP y.1 with
    | some l, some k => .ok ((valP l k).getD z.1, z.2)
    | _, _ => stk
    else stk
  | .callP f es, ρ, h => bnd (evEs es ρ h) fun x => callPl cal f x.1 x.2
  | .callH f es, ρ, h => bnd (evEs es ρ h) fun x => cal f x.1 x.2
  | .blt f es, ρ, h => bnd (evEs es ρ h) fun x => bnd (bltop f x.1 x.2) fun v => .ok (v, x.2)
  | .isi e t, ρ, h => bnd (evE e ρ h) fun x => match tyOk x.1 x.2 t with | some b => .ok (.bl b, x.2) | none => stk
  | .isiT e ts, ρ, h => bnd (evE e ρ h) fun x => match tyAny x.1 x.2 ts with | some b => .ok (.bl b, x.2) | none => stk
  | .mth m o es, ρ, h => bnd (evE o ρ h) fun x => if mthTy m x.1 x.2 = true then bnd (evEs es ρ x.2) fun y => mthop m x.1 y.1 y.2 else stk
  | .fld c e f, ρ, h => bnd (evE e ρ h) fun x => bnd (fldop c x.1 f x.2) fun v => .ok (v, x.2)
  | .mcall c nm f o es, ρ, h => bnd (evE o ρ h) fun x => if isOb c nm x.1 x.2 = true then bnd (evEs es ρ x.2) fun y => cal f (x.1 :: y.1) y.2 else stk
  | .mcallD c nm f o es, ρ, h => bnd (evE o ρ h) fun x => if isOb c nm x.1 x.2 = true then bnd (evEs es ρ x.2) fun y => cal f (x.1 :: (y.1 ++ [.non])) y.2 else stk
  | .make f es, ρ, h => bnd (evEs es ρ h) fun x => cal f x.1 x.2
  | .ddisp ks es, ρ, h => bnd (evEs es ρ (h ++ [.dct []])) fun x => bnd (dispop h.length ks x.1 x.2) fun h' => .ok (.ref h.length, h')
  | .dnewN, _, h => .ok (.ref h.length, h ++ [.dcN []])
  | .lrepD e n, ρ, h => bnd (evE e ρ h) fun x => bnd (evE n ρ x.2) fun y => match y.1 with
    | .int i => if 0 ≤ i ∧ i ≤ 1000 then .ok (.ref y.2.length, y.2 ++ [.lst (List.replicate i.toNat x.1)]) else stk
    | _ => stk
  | .mcallV cs nm dd o es, ρ, h => bnd (evE o ρ h) fun x => match clsOf x.1 x.2 with
    | some c => (match cs.lookup c with
      | some f => if isOb c nm x.1 x.2 = true then bnd (evEs es ρ x.2) fun y => cal f (x.1 :: (y.1 ++ if dd = true then [.non] else [])) y.2 else stk
      | none => stk)
    | none => stk
  | .getN o es, ρ, h => bnd (evE o ρ h) fun x => if (nview x.1 x.2).isSome = true then bnd (evEs es ρ x.2) fun y => bnd (getopN x.1 y.1 y.2) fun v => .ok (v, y.2) else stk
  | .spc1 m f e, ρ, h => bnd (evE e ρ h) fun x => bnd (spcop f [x.1] x.2) fun l => if m = true then .ok (.ref x.2.length, x.2 ++ [.lst l]) else .ok (.lst l, x.2)
  | .spc2 m a b, ρ, h => bnd (evE a ρ h) fun x => bnd (evE b ρ x.2) fun y => bnd (spcop .rng2 [x.1, y.1] y.2) fun l => if m = true then .ok (.ref y.2.length, y.2 ++ [.lst l]) else .ok (.lst l, y.2)
  | .sth f o es, ρ, h => bnd (evE o ρ h) fun x => match x.1 with
    | .str _ => bnd (evEs es ρ x.2) fun y => bnd (sthop f x.1 y.1 y.2) fun v => .ok (v, y.2)
    | _ => stk
  | .comp m elt tg it ifs own, ρ, h => bnd (evI it ρ h) fun x =>
    bnd (compL (fun v h => noEx (bnd (bindT tg v (wipeP ρ (own.map (·.2)))) fun ρ' => bnd (evTests ifs ρ' h) fun t =>
      if t.1 = true then bnd (evE elt ρ' t.2) fun r => .ok (some r.1, r.2) else .ok (none, t.2))) x.1.2 x.1.1 x.2 []) fun r =>
    if m = true then .ok (.ref r.2.length, r.2 ++ [.lst r.1]) else .ok (.lst r.1, r.2)
  | .lck i e, ρ, h => match ρ[i]? with
    | some (some (.ref n)) => (match h[n]? with
      | some (.dct l) => (match evE e ρ (h.set n (.fz l)) with
        | .ok x => (match x.2[n]? with | some (.fz m) => .ok (x.1, x.2.set n (.dct m)) | _ => stk)
        | .error _ => stk)
      | _ => stk)
    | _ => stk
def evEs : Es → Slts → MH → R (List PV × MH)
  | .nil, _, h => .ok ([], h)
  | .cons e es, ρ, h => bnd (evE e ρ h) fun x => bnd (evEs es ρ x.2) fun y => .ok (x.1 :: y.1, y.2)
def evAnd : Es → Slts → MH → R (PV × MH)
  | .nil, _, _ => stk
  | .cons e es, ρ, h => bnd (evE e ρ h) fun x => match es with
    | .nil => .ok x
    | .cons _ _ => bnd (truR x.1 x.2) fun t => if t = true then evAnd es ρ x.2 else .ok x
def evOr : Es → Slts → MH → R (PV × MH)
  | .nil, _, _ => stk
  | .cons e es, ρ, h => bnd (evE e ρ h) fun x => match es with
    | .nil => .ok x
    | .cons _ _ => bnd (truR x.1 x.2) fun t => if t = true then .ok x else evOr es ρ x.2
def evTests : Es → Slts → MH → R (Bool × MH)
  | .nil, _, h => .ok (true, h)
  | .cons e es, ρ, h => match es with
    | .nil => bnd (evE e ρ h) fun x => bnd (truR x.1 x.2) fun t => .ok (t, x.2)
    | .cons _ _ => stk
def evO : Oe → Slts → MH → R (Option Int × MH)
  | .no, _, h => .ok (none, h)
  | .yes e, ρ, h => bnd (evE e ρ h) fun x => match x.1 with | .int i => .ok (some i, x.2) | _ => stk
def evI : It → Slts → MH → R ((List PV × Lk) × MH)
  | .seq e, ρ, h => bnd (evE e ρ h) fun x => match x.1 with
    | .tup l => .ok ((l, []), x.2)
    | .str s => .ok ((s.cps.toList.map fun c => .str ⟨#[c]⟩, []), x.2)
    | v => match wview v x.2 with | some w => .ok (w, x.2) | none => stk
  | .rng1 e, ρ, h => bnd (evE e ρ h) fun x => match x.1 with
    | .int j => if rngOk j = true then .ok ((rngP j.toNat 0, []), x.2) else stk
    | _ => stk
  | .rng2 a b, ρ, h => bnd (evE a ρ h) fun x => bnd (evE b ρ x.2) fun y => match x.1, y.1 with
    | .int i, .int j => if rngOk i = true ∧ rngOk j = true then .ok ((rngP (j - i).toNat i, []), y.2) else stk
    | _, _ => stk
  | .enm e, ρ, h => bnd (evE e ρ h) fun x => match x.1 with
    | .tup l => .ok ((enumP 0 l, []), x.2)
    | v => match wview v x.2 with
      | some w => .ok ((enumP 0 w.1, w.2), x.2)
      | none => stk
  | .zip a b, ρ, h => bnd (evE a ρ h) fun x => bnd (evE b ρ x.2) fun y => match x.1, y.1 with
    | .tup l, .tup m => .ok ((zipP l m, []), y.2)
    | v, w => match wview v y.2, wview w y.2 with
      | some v, some w => .ok ((zipP v.1 w.1, v.2 ++ w.2), y.2)
      | _, _ => stk
  | .dks e, ρ, h => bnd (evE e ρ h) fun x => match x.1 with
    | .ref n => (match x.2[n]? with | some (.fz l) => .ok ((l.map fun p => keyV p.1, []), x.2) | _ => stk)
    | _ => stk
  | .dksN e, ρ, h => bnd (evE e ρ h) fun x => match x.1 with
    | .ref n => (match x.2[n]? with | some (.fzN l) => .ok ((l.map fun p => nkV p.1, []), x.2) | _ => stk)
    | _ => stk
end
/-- an expression's exception as a statement's end -/
def exF {α : Type} (ρ : Slts) (x : R α) (f : α → R (Fl × Slts × MH)) : R (Fl × Slts × MH) := match x with
  | .ok a => f a
  | .error .stuck => stk
  | .error (.exc c h) => .ok (.ex c, ρ, h)
/-- what the classes say of one another -/
def isb (cal : Cal) (f : String) (c d : Str) : Option Bool := match cal f [.str c, .str d] [] with
  | .ok (.bl b, _) => some b
  | _ => none
def anyB (q : Str → Option Bool) : List Str → Option Bool
  | [] => some false
  | c :: r => match q c, anyB q r with | some b, some d => some (b || d) | _, _ => none
def tsE (q : Str → Option Bool) : List (Bool × List Str) → Option Es
  | [] => some .nil
  | c :: r => match anyB q c.2, tsE q r with | some b, some es => some (.cons (.kbl b) es) | _, _ => none
def instX (q : Str → Option Bool) : Xe → Option E
  | .e x => some x
  | .ts m l => match tsE q l with | some es => some (if m = true then .lst es else .tup es) | none => none
  | .ad j m l => match tsE q l with | some es => some (.bin .Add (.var j) (if m = true then .lst es else .tup es)) | none => none
def suX (cal : Cal) (gl : Gls) (q : Str → Option Bool) : List (Nat × Xe) → Slts → MH → R (Slts × MH)
  | [], ρ, h => .ok (ρ, h)
  | x :: r, ρ, h => match instX q x.2 with
    | some e => (match evE cal gl e ρ h with
      | .ok v => bnd (bindT (.name x.1) v.1 ρ) fun ρ' => suX cal gl q r ρ' v.2
      | .error _ => stk)
    | none => stk
def clr (i : Option Nat) (ρ : Slts) : Slts := match i with | some i => ρ.set i none | none => ρ
def hand (cal : Cal) (gl : Gls) (c : Str) : List Hd → Slts → MH → R (Fl × Slts × MH)
  | [], ρ, h => .ok (.ex c, ρ, h)
  | x :: r, ρ, h => match isb cal "<" c x.cl with
    | some true => bnd (suX cal gl (isb cal "?" c) x.su (clr x.nm ρ) h) fun q => .ok (.nx, clr x.nm q.1, q.2)
    | some false => hand cal gl c r ρ h
    | none => stk
/-- a part of a tuple's part .. -/
def pathV : PV → List Nat → Option PV
  | v, [] => some v
  | .tup l, j :: js => match l[j]? with | some v => pathV v js | none => none
  | _, _ :: _ => none
def isEx : Fl → Bool
  | .ex _ => true
  | _ => false
mutual
def evS : S → Slts → MH → R (Fl × Slts × MH)
  | .asg t e, ρ, h => exF ρ (evE cal gl e ρ h) fun x => bnd (bindT t x.1 ρ) fun ρ' => .ok (.nx, ρ', x.2)
  | .aug i e, ρ, h => match ρ[i]? with
    | some (some v) => exF ρ (evE cal gl e ρ h) fun x => match v, x.1 with | .int a, .int b => .ok (.nx, ρ.set i (some (.int (a + b))), x.2) | _, _ => stk
    | _ => stk
  | .sub o i e, ρ, h => exF ρ (evE cal gl e ρ h) fun x => exF ρ (evE cal gl o ρ x.2) fun y => exF ρ (evE cal gl i ρ y.2) fun z =>
    bnd (setop y.1 z.1 x.1 z.2) fun h => .ok (.nx, ρ, h)
  | .asg2 o i j e, ρ, h => exF ρ (evE cal gl e ρ h) fun x => match x.1 with
    | .tup [v, u] => exF ρ (evE cal gl o ρ x.2) fun y => exF ρ (evE cal gl i ρ y.2) fun z => bnd (setop y.1 z.1 v z.2) fun h => .ok (.nx, ρ.set j (some u), h)
    | _ => stk
  | .setT o ks e, ρ, h => exF ρ (evE cal gl e ρ h) fun x => exF ρ (evE cal gl o ρ x.2) fun y => exF ρ (evEs cal gl ks ρ y.2) fun z => bnd (setopT y.1 z.1 x.1 z.2) fun h => .ok (.nx, ρ, h)
  | .sfld c o f e, ρ, h => exF ρ (evE cal gl e ρ h) fun x => exF ρ (evE cal gl o ρ x.2) fun y => bnd (setfld c y.1 f x.1 y.2) fun h => .ok (.nx, ρ, h)
  | .expr e, ρ, h => exF ρ (evE cal gl e ρ h) fun x => .ok (.nx, ρ, x.2)
  | .ret e, ρ, h => exF ρ (evE cal gl e ρ h) fun x => .ok (.ret x.1, ρ, x.2)
  | .retN, ρ, h => .ok (.ret .non, ρ, h)
  | .iff c a b, ρ, h => exF ρ (evE cal gl c ρ h) fun x => bnd (truR x.1 x.2) fun t => if t = true then evSs a ρ x.2 else evSs b ρ x.2
  | .forr t it b, ρ, h => exF ρ (evI cal gl it ρ h) fun x => forL (fun v ρ h => bnd (bindT t v ρ) fun ρ' => evSs b ρ' h) x.1.2 x.1.1 ρ x.2
  | .whl n c b, ρ, h => whlL (fun ρ h => match evE cal gl c ρ h with
      | .error .stuck => stk
      | .error (.exc c h) => .ok (some (.ex c), ρ, h)
      | .ok x => bnd (truR x.1 x.2) fun t => if t = true then bnd (evSs b ρ x.2) fun r => .ok (some r.1, r.2) else .ok (none, ρ, x.2)) n ρ h
  | .pass, ρ, h => .ok (.nx, ρ, h)
  | .brk, ρ, h => .ok (.bk, ρ, h)
  | .cnt, ρ, h => .ok (.ct, ρ, h)
  | .stop, _, _ => stk
  | .lckN i js s, ρ, h => match ρ[i]? with
    | some (some v) => (match pathV v js with
      | some (.ref n) => (match h[n]? with
        | some (.dcN l) => (match evS s ρ (h.set n (.fzN l)) with
          | .ok x => if isEx x.1 = true then stk else (match x.2.2[n]? with | some (.fzN m) => .ok (x.1, x.2.1, x.2.2.set n (.dcN m)) | _ => stk)
          | .error _ => stk)
        | _ => stk)
      | _ => stk)
    | _ => stk
  | .lckS i s, ρ, h => match ρ[i]? with
    | some (some (.ref n)) => (match h[n]? with
      | some (.dct l) => (match evS s ρ (h.set n (.fz l)) with
        | .ok x => if isEx x.1 = true then stk else (match x.2.2[n]? with | some (.fz m) => .ok (x.1, x.2.1, x.2.2.set n (.dct m)) | _ => stk)
        | .error _ => stk)
      | _ => stk)
    | _ => stk
  | .raise c, ρ, h => .ok (.ex c, ρ, h)
  | .tryS b hs, ρ, h => bnd (evSs b ρ h) fun r => match r.1 with
    | .ex c => hand cal gl c hs r.2.1 r.2.2
    | _ => .ok r
def evSs : Ss → Slts → MH → R (Fl × Slts × MH)
  | .nil, ρ, h => .ok (.nx, ρ, h)
  | .cons s ss, ρ, h => bnd (evS s ρ h) fun r => match r.1 with
    | .nx => evSs ss r.2.1 r.2.2
    | _ => .ok r
end
end

structure FD where
  /-- its name in the program -/
  py : Str
  /-- how many parameters, how many names -/
  ar : Nat
  sl : Nat
  body : Ss
structure Pg where
  fn : String → Option FD
  gl : Gls
  /-- the class of a method -/
  cl : String → Option Str := fun _ => none
  /-- the classes, their attributes -/
  cs : List (Str × List Str) := []
  /-- what a class is made by: its name, its first method -/
  mak : String → Option (Str × String) := fun _ => none
  /-- whose last parameter may be left out: None -/
  df : String → Bool := fun _ => false
  /-- the classes that are raised; "<": whether a clause takes a class, "?": whether isinstance says so -/
  rs : List Str := []
  xm : String → Str → Str → Option Bool := fun _ _ _ => none
  /-- functions that are keys, by their names as keys -/
  ky : String → Option String := fun _ => none
def xmR (pg : Pg) (cal : Cal) (f : String) (vs : List PV) (h : MH) : R (PV × MH) := match vs with
  | [v] => (match pg.ky f with | some g => cal g [v] h | none => stk)
  | [.str c, .str d] => (match pg.xm f c d with | some b => .ok (.bl b, h) | none => stk)
  | _ => stk
def run (pg : Pg) : Nat → Cal
  | 0, _, _, _ => stk
  | k + 1, f, vs, h => match pg.fn f with
    | none => match pg.mak f with
      | some (c, g) => bnd (run pg k g (.ref h.length :: vs) (h ++ [.obj c []])) fun y => if isNon y.1 = true then .ok (.ref h.length, y.2) else stk
      | none => xmR pg (run pg k) f vs h
    | some d => if vs.length = d.ar then
        match evSs (run pg k) pg.gl d.body (vs.map some ++ List.replicate (d.sl - d.ar) none) h with
        | .ok (.nx, _, h') => .ok (.non, h')
        | .ok (.ret v, _, h') => .ok (v, h')
        | .ok (.ex c, _, h') => .error (.exc c h')
        | .ok (_, _, _) => stk
        | .error _ => stk
      else stk
end Rg

namespace Rg
open PySem PySem.Spec PyProof.Rows L2
/-- the world -/
class Wd (K : PySem.W.Frag) where
  w : World
instance (X : Cx) : Wd X.K := ⟨X.w⟩
/-- the dict at a has just these entries -/
def RawN (K : PySem.W.Frag) [Wd K] (a : Addr) (xs : List (NestedKey × Addr × Value)) : Heap → Prop := fun h => ∃ o es ep, h.get? a = some o ∧ o.ExactDict ∧ o.data = .dict es ep ∧ es.toList = xs.map fun x => (⟨x.1.hash (Wd.w K), .ref x.2.1, x.2.2⟩ : DictEntry)

def KT (K : PySem.W.Frag) [Wd K] (a : Addr) (xs : List V) : Prop :=
  ∃ (o : Obj) (its : Array Value) (n : Nat), K.lookup a = some o ∧ o.cls = .type "tuple" ∧ o.data = .seq its n ∧ its.size ≤ sizeLine ∧ Vals xs its.toList
def KL (K : PySem.W.Frag) [Wd K] (a : Addr) (xs : List V) : Prop :=
  ∃ (o : Obj) (its : Array Value) (n : Nat), K.lookup a = some o ∧ o.cls = .type "list" ∧ o.dict = none ∧ o.data = .seq its n ∧ its.size ≤ sizeLine ∧ Vals xs its.toList
def SxL (K : PySem.W.Frag) [Wd K] (B μ : List Addr) (H : Hp) (a : Addr) (xs : List V) : Prop := (Rd H a (.lst xs) ∧ a ∉ B ∧ a ∉ μ) ∨ KL K a xs
def SxT (K : PySem.W.Frag) [Wd K] (μ : List Addr) (H : Hp) (a : Addr) (xs : List V) : Prop := (Rd H a (.tup xs) ∧ a ∉ μ) ∨ KT K a xs
theorem SxL.sq {K : PySem.W.Frag} [Wd K] {B μ : List Addr} {H : Hp} {a : Addr} {xs : List V} (h : SxL K B μ H a xs) : SqL K H a xs := h.elim (fun z => .inl z.1) .inr
theorem SxT.sq {K : PySem.W.Frag} [Wd K] {μ : List Addr} {H : Hp} {a : Addr} {xs : List V} (h : SxT K μ H a xs) : SqT K H a xs := h.elim (fun z => .inl z.1) .inr

mutual
/-- a plain value and what stands for it -/
def Rep (K : PySem.W.Frag) [Wd K] (B μ : List Addr) (H : Hp) : PV → V → Prop
  | .non, x => x = .non
  | .bl b, x => x = .bl b
  | .int i, x => x = .int i
  | .str s, x => x = .str s ∧ s.length ≤ big ∧ PyData.strOk s = true
  | .tup l, x => ∃ a vs, x = .ref a ∧ SxT K μ H a vs ∧ Reps K B μ H l vs
  | .lst l, x => ∃ a vs, x = .ref a ∧ SxL K B μ H a vs ∧ Reps K B μ H l vs
  | .ref n, x => ∃ a, x = .ref a ∧ μ[n]? = some a
def Reps (K : PySem.W.Frag) [Wd K] (B μ : List Addr) (H : Hp) : List PV → List V → Prop
  | [], vs => vs = []
  | p :: ps, vs => ∃ v r, vs = v :: r ∧ Rep K B μ H p v ∧ Reps K B μ H ps r
end

section
variable {K : PySem.W.Frag} [Wd K] {B B' μ μ' : List Addr} {H H' : Hp}
theorem Reps.nil : Reps K B μ H [] [] := by simp only [Reps]
theorem Reps.cons {p : PV} {ps : List PV} {v : V} {vs : List V} (h : Rep K B μ H p v) (t : Reps K B μ H ps vs) : Reps K B μ H (p :: ps) (v :: vs) := by
  simp only [Reps]; exact ⟨v, vs, rfl, h, t⟩
theorem Reps.nil_inv {vs : List V} (h : Reps K B μ H [] vs) : vs = [] := by simpa only [Reps] using h
theorem Reps.cons_inv {p : PV} {ps : List PV} {vs : List V} (h : Reps K B μ H (p :: ps) vs) : ∃ v r, vs = v :: r ∧ Rep K B μ H p v ∧ Reps K B μ H ps r := by simpa only [Reps] using h
theorem Reps.length : ∀ {ps : List PV} {vs : List V}, Reps K B μ H ps vs → ps.length = vs.length
  | [], _, h => by rw [h.nil_inv]; rfl
  | p :: ps, _, h => by
    obtain ⟨v, r, rfl, _, t⟩ := h.cons_inv
    rw [List.length_cons, List.length_cons, Reps.length t]
theorem Reps.append : ∀ {ps qs : List PV} {vs ws : List V}, Reps K B μ H ps vs → Reps K B μ H qs ws → Reps K B μ H (ps ++ qs) (vs ++ ws)
  | [], _, _, _, h, g => by rw [h.nil_inv]; exact g
  | p :: ps, _, _, _, h, g => by
    obtain ⟨v, r, rfl, h1, t⟩ := h.cons_inv
    exact .cons h1 (Reps.append t g)
theorem Reps.get : ∀ {ps : List PV} {vs : List V} {i : Nat} {p : PV}, Reps K B μ H ps vs → ps[i]? = some p → ∃ v, vs[i]? = some v ∧ Rep K B μ H p v
  | [], _, _, _, _, e => by simp at e
  | q :: ps, _, 0, p, h, e => by
    obtain ⟨v, r, rfl, h1, t⟩ := h.cons_inv
    simp at e; subst e
    exact ⟨v, by simp, h1⟩
  | q :: ps, _, i + 1, p, h, e => by
    obtain ⟨v, r, rfl, h1, t⟩ := h.cons_inv
    obtain ⟨w, e2, r2⟩ := Reps.get (i := i) (p := p) t (by simpa using e)
    exact ⟨w, by simpa using e2, r2⟩
theorem Reps.take : ∀ {ps : List PV} {vs : List V} (n : Nat), Reps K B μ H ps vs → Reps K B μ H (ps.take n) (vs.take n)
  | _, _, 0, _ => by simpa using Reps.nil
  | [], _, n + 1, h => by rw [h.nil_inv]; simpa using Reps.nil
  | p :: ps, _, n + 1, h => by
    obtain ⟨v, r, rfl, h1, t⟩ := h.cons_inv
    simpa using Reps.cons h1 (Reps.take n t)
theorem Reps.drop : ∀ {ps : List PV} {vs : List V} (n : Nat), Reps K B μ H ps vs → Reps K B μ H (ps.drop n) (vs.drop n)
  | _, _, 0, h => by simpa using h
  | [], _, n + 1, h => by rw [h.nil_inv]; simpa using Reps.nil
  | p :: ps, _, n + 1, h => by
    obtain ⟨v, r, rfl, h1, t⟩ := h.cons_inv
    simpa using Reps.drop n t
theorem Reps.set : ∀ {ps : List PV} {vs : List V} (i : Nat) {p : PV} {v : V}, Reps K B μ H ps vs → Rep K B μ H p v → Reps K B μ H (ps.set i p) (vs.set i v)
  | [], _, i, _, _, h, _ => by rw [h.nil_inv]; simpa using Reps.nil
  | q :: ps, _, 0, _, _, h, g => by
    obtain ⟨w, r, rfl, h1, t⟩ := h.cons_inv
    simpa using Reps.cons g t
  | q :: ps, _, i + 1, _, _, h, g => by
    obtain ⟨w, r, rfl, h1, t⟩ := h.cons_inv
    simpa using Reps.cons h1 (Reps.set i t g)
theorem Reps.dropLast : ∀ {ps : List PV} {vs : List V}, Reps K B μ H ps vs → Reps K B μ H ps.dropLast vs.dropLast := fun {ps vs} h => by
  rw [List.dropLast_eq_take, List.dropLast_eq_take, ← h.length]
  exact h.take _
end

/-- what may have become of the heap -/
structure Step (μ : List Addr) (H : Hp) (μ' : List Addr) (H' : Hp) : Prop where
  pre : ∃ ν, μ' = μ ++ ν ∧ ∀ a ∈ ν, H a = none
  keep : ∀ a o, H a = some o → a ∉ μ → H' a = some o
  trk : ∀ a o, H a = some o → ∃ o', H' a = some o'
  fz : ∀ a o u, H a = some (.frz o u) → H' a = some (.frz o u)
section
variable {K : PySem.W.Frag} [Wd K] {B B' μ μ' μ2 : List Addr} {H H' H2 : Hp}
theorem Step.refl : Step μ H μ H := ⟨⟨[], by simp, fun _ z => by simp at z⟩, fun _ _ h _ => h, fun _ o h => ⟨o, h⟩, fun _ _ _ h => h⟩
theorem Step.notin (s : Step μ H μ' H') {a : Addr} {o : HO} (h : H a = some o) (hm : a ∉ μ) : a ∉ μ' := fun z => by
  obtain ⟨ν, rfl, hn⟩ := s.pre
  rcases List.mem_append.mp z with z | z
  · exact hm z
  · rw [hn a z] at h; cases h
theorem Step.free (s : Step μ H μ' H') {a : Addr} (h : H' a = none) : H a = none := by
  cases e : H a with
  | none => rfl
  | some o => obtain ⟨o', e'⟩ := s.trk a o e; rw [h] at e'; cases e'
theorem Step.trans (s : Step μ H μ' H') (t : Step μ' H' μ2 H2) : Step μ H μ2 H2 := by
  refine ⟨?_, fun a o h hm => t.keep a o (s.keep a o h hm) (s.notin h hm), fun a o h => ?_, ?_⟩
  · obtain ⟨ν, rfl, hn⟩ := s.pre
    obtain ⟨ν', rfl, hn'⟩ := t.pre
    refine ⟨ν ++ ν', by rw [List.append_assoc], fun a ha => ?_⟩
    rcases List.mem_append.mp ha with ha | ha
    · exact hn a ha
    · exact s.free (hn' a ha)
  · obtain ⟨o', e⟩ := s.trk a o h
    exact t.trk a o' e
  · intro a o u h; exact t.fz a o u (s.fz a o u h)
theorem Step.get (s : Step μ H μ' H') {n : Nat} {a : Addr} (h : μ[n]? = some a) : μ'[n]? = some a := by
  obtain ⟨ν, rfl, _⟩ := s.pre
  rw [List.getElem?_append_left (List.getElem?_eq_some_iff.mp h).1]
  exact h
theorem Step.rd {mk : HO} (s : Step μ H μ' H') {a : Addr} (h : Rd H a mk) (hm : a ∉ μ) : Rd H' a mk ∧ a ∉ μ' := by
  rcases h with h | ⟨o, h⟩
  · exact ⟨.inl (s.keep _ _ h hm), s.notin h hm⟩
  · exact ⟨.inr ⟨o, s.keep _ _ h hm⟩, s.notin h hm⟩
theorem SxL.step {a : Addr} {xs : List V} (h : SxL K B μ H a xs) (s : Step μ H μ' H') : SxL K B μ' H' a xs := by
  rcases h with ⟨h, hb, hm⟩ | h
  · obtain ⟨h2, hm2⟩ := s.rd h hm
    exact .inl ⟨h2, hb, hm2⟩
  · exact .inr h
theorem SxT.step {a : Addr} {xs : List V} (h : SxT K μ H a xs) (s : Step μ H μ' H') : SxT K μ' H' a xs := by
  rcases h with ⟨h, hm⟩ | h
  · exact .inl (s.rd h hm)
  · exact .inr h
mutual
theorem Rep.step (s : Step μ H μ' H') : ∀ {p : PV} {v : V}, Rep K B μ H p v → Rep K B μ' H' p v
  | .non, _, h => by simpa only [Rep] using h
  | .bl _, _, h => by simpa only [Rep] using h
  | .int _, _, h => by simpa only [Rep] using h
  | .str _, _, h => by simpa only [Rep] using h
  | .tup l, _, h => by
    simp only [Rep] at h ⊢
    obtain ⟨a, vs, e, hs, hr⟩ := h
    exact ⟨a, vs, e, hs.step s, Reps.step s hr⟩
  | .lst l, _, h => by
    simp only [Rep] at h ⊢
    obtain ⟨a, vs, e, hs, hr⟩ := h
    exact ⟨a, vs, e, hs.step s, Reps.step s hr⟩
  | .ref n, _, h => by
    simp only [Rep] at h ⊢
    obtain ⟨a, e, hm⟩ := h
    exact ⟨a, e, s.get hm⟩
theorem Reps.step (s : Step μ H μ' H') : ∀ {ps : List PV} {vs : List V}, Reps K B μ H ps vs → Reps K B μ' H' ps vs
  | [], _, h => by rw [h.nil_inv]; exact .nil
  | p :: ps, _, h => by
    obtain ⟨v, r, rfl, h1, t⟩ := h.cons_inv
    exact .cons (Rep.step s h1) (Reps.step s t)
end

/-- less than a step: a walk's lock may be lifted -/
structure Stp0 (μ : List Addr) (H : Hp) (μ' : List Addr) (H' : Hp) : Prop where
  pre : ∃ ν, μ' = μ ++ ν ∧ ∀ a ∈ ν, H a = none
  keep : ∀ a o, H a = some o → a ∉ μ → H' a = some o
theorem Stp0.notin (s : Stp0 μ H μ' H') {a : Addr} {o : HO} (h : H a = some o) (hm : a ∉ μ) : a ∉ μ' := fun z => by
  obtain ⟨ν, rfl, hn⟩ := s.pre
  rcases List.mem_append.mp z with z | z
  · exact hm z
  · rw [hn a z] at h; cases h
theorem Stp0.get (s : Stp0 μ H μ' H') {n : Nat} {a : Addr} (h : μ[n]? = some a) : μ'[n]? = some a := by
  obtain ⟨ν, rfl, _⟩ := s.pre
  rw [List.getElem?_append_left (List.getElem?_eq_some_iff.mp h).1]
  exact h
theorem Stp0.rd {mk : HO} (s : Stp0 μ H μ' H') {a : Addr} (h : Rd H a mk) (hm : a ∉ μ) : Rd H' a mk ∧ a ∉ μ' := by
  rcases h with h | ⟨o, h⟩
  · exact ⟨.inl (s.keep _ _ h hm), s.notin h hm⟩
  · exact ⟨.inr ⟨o, s.keep _ _ h hm⟩, s.notin h hm⟩
theorem SxL.step0 {a : Addr} {xs : List V} (h : SxL K B μ H a xs) (s : Stp0 μ H μ' H') : SxL K B μ' H' a xs := by
  rcases h with ⟨h, hb, hm⟩ | h
  · obtain ⟨h2, hm2⟩ := s.rd h hm
    exact .inl ⟨h2, hb, hm2⟩
  · exact .inr h
theorem SxT.step0 {a : Addr} {xs : List V} (h : SxT K μ H a xs) (s : Stp0 μ H μ' H') : SxT K μ' H' a xs := by
  rcases h with ⟨h, hm⟩ | h
  · exact .inl (s.rd h hm)
  · exact .inr h
mutual
theorem Rep.step0 (s : Stp0 μ H μ' H') : ∀ {p : PV} {v : V}, Rep K B μ H p v → Rep K B μ' H' p v
  | .non, _, h => by simpa only [Rep] using h
  | .bl _, _, h => by simpa only [Rep] using h
  | .int _, _, h => by simpa only [Rep] using h
  | .str _, _, h => by simpa only [Rep] using h
  | .tup l, _, h => by
    simp only [Rep] at h ⊢
    obtain ⟨a, vs, e, hs, hr⟩ := h
    exact ⟨a, vs, e, hs.step0 s, Reps.step0 s hr⟩
  | .lst l, _, h => by
    simp only [Rep] at h ⊢
    obtain ⟨a, vs, e, hs, hr⟩ := h
    exact ⟨a, vs, e, hs.step0 s, Reps.step0 s hr⟩
  | .ref n, _, h => by
    simp only [Rep] at h ⊢
    obtain ⟨a, e, hm⟩ := h
    exact ⟨a, e, s.get hm⟩
theorem Reps.step0 (s : Stp0 μ H μ' H') : ∀ {ps : List PV} {vs : List V}, Reps K B μ H ps vs → Reps K B μ' H' ps vs
  | [], _, h => by rw [h.nil_inv]; exact .nil
  | p :: ps, _, h => by
    obtain ⟨v, r, rfl, h1, t⟩ := h.cons_inv
    exact .cons (Rep.step0 s h1) (Reps.step0 s t)
end

/-- texts that hold -/
def StrGood (s : Str) : Prop := s.length ≤ big ∧ PyData.strOk s = true
def KeysGood (l : List L2.Key) : Prop := ∀ s, Sum.inr s ∈ l → StrGood s
/-- a class stands at the top -/
def CA (K : PySem.W.Frag) (c : Str) (C : Addr) : Prop := PySem.W.nsIn K mainGlobals c = some (some (.ref C))
omit [Wd K] in
theorem CA.uniq {c : Str} {C D : Addr} (h : CA K c C) (g : CA K c D) : C = D := by
  unfold CA at h g
  rw [h] at g
  cases g
  rfl
/-- the cells -/
def CellOk (K : PySem.W.Frag) [Wd K] (B μ : List Addr) (H : Hp) (a : Addr) : Cell → Prop
  | .lst l => ∃ vs, H a = some (.lst vs) ∧ Reps K B μ H l vs
  | .dct l => ∃ kvs : List (L2.Key × V), H a = some (.dK kvs) ∧ (kvs.map (·.1) = l.map (·.1) ∧ KeysGood (l.map (·.1))) ∧ Reps K B μ H (l.map (·.2)) (kvs.map (·.2))
  | .dcT l => ∃ kvs : List (List L2.Key × V), H a = some (.dT kvs) ∧ kvs.map (·.1) = l.map (·.1) ∧ Reps K B μ H (l.map (·.2)) (kvs.map (·.2))
  | .dcN l => ∃ (xs : List (NestedKey × Addr × Value)) (vs : List V), H a = some (.ext (RawN K a xs)) ∧ ((a == sysModules) = false ∧ xs.length ≤ sizeLine) ∧ (xs.map (·.1) = l.map (·.1) ∧ (l.map (·.1)).Nodup) ∧
      (∀ x ∈ xs, Rep K B μ H (nkV x.1) (.ref x.2.1) ∧ x.1.depth ≤ 8) ∧ Vals vs (xs.map (·.2.2)) ∧ Reps K B μ H (l.map (·.2)) vs
  | .fz l => ∃ (o : Obj) (kvs : List (L2.Key × V)), H a = some (.frz o (.dK kvs)) ∧ (kvs.map (·.1) = l.map (·.1) ∧ KeysGood (l.map (·.1))) ∧ Reps K B μ H (l.map (·.2)) (kvs.map (·.2))
  | .fzN l => ∃ (o : Obj) (xs : List (NestedKey × Addr × Value)) (vs : List V), H a = some (.frz o (.ext (RawN K a xs))) ∧ ((a == sysModules) = false ∧ xs.length ≤ sizeLine) ∧ (xs.map (·.1) = l.map (·.1) ∧ (l.map (·.1)).Nodup) ∧
      (∀ x ∈ xs, Rep K B μ H (nkV x.1) (.ref x.2.1) ∧ x.1.depth ≤ 8) ∧ Vals vs (xs.map (·.2.2)) ∧ Reps K B μ H (l.map (·.2)) vs
  | .obj c fs => ∃ (C dx : Addr) (fv : List (Str × V)), H a = some (.ins C dx fv) ∧ CA K c C ∧ fv.map (·.1) = fs.map (·.1) ∧ Reps K B μ H (fs.map (·.2)) (fv.map (·.2))
structure Rel (K : PySem.W.Frag) [Wd K] (B μ : List Addr) (h : MH) (H : Hp) : Prop where
  len : μ.length = h.length
  nd : μ.Nodup
  sep : ∀ a ∈ B, a ∉ μ
  trB : ∀ a ∈ B, ∃ o, H a = some o
  cell : ∀ (n : Nat) (c : Cell), h[n]? = some c → ∃ a, μ[n]? = some a ∧ CellOk K B μ H a c
theorem Rel.lst {h : MH} (r : Rel K B μ h H) {n : Nat} {l : List PV} (e : h[n]? = some (.lst l)) : ∃ a vs, μ[n]? = some a ∧ H a = some (.lst vs) ∧ Reps K B μ H l vs := by
  obtain ⟨a, ha, vs, h1, h2⟩ := r.cell n _ e
  exact ⟨a, vs, ha, h1, h2⟩
theorem Rel.tracked {h : MH} (r : Rel K B μ h H) {a : Addr} (ha : a ∈ μ) : ∃ o, H a = some o := by
  obtain ⟨n, hn, e⟩ := List.mem_iff_getElem.mp ha
  have hl : n < h.length := by rw [← r.len]; exact hn
  obtain ⟨b, hb, hc⟩ := r.cell n h[n] (List.getElem?_eq_getElem hl)
  rw [List.getElem?_eq_getElem hn, e] at hb
  cases hb
  cases q : h[n] with
  | lst l => rw [q] at hc; obtain ⟨vs, z, _⟩ := hc; exact ⟨_, z⟩
  | dct l => rw [q] at hc; obtain ⟨kvs, z, _⟩ := hc; exact ⟨_, z⟩
  | dcT l => rw [q] at hc; obtain ⟨kvs, z, _⟩ := hc; exact ⟨_, z⟩
  | obj c fs => rw [q] at hc; obtain ⟨C, dx, fv, z, _⟩ := hc; exact ⟨_, z⟩
  | dcN l => rw [q] at hc; obtain ⟨xs, vs, z, _⟩ := hc; exact ⟨_, z⟩
  | fz l => rw [q] at hc; obtain ⟨o, kvs, z, _⟩ := hc; exact ⟨_, z⟩
  | fzN l => rw [q] at hc; obtain ⟨o, xs, vs, z, _⟩ := hc; exact ⟨_, z⟩
theorem Rel.dct {h : MH} (r : Rel K B μ h H) {n : Nat} {l : List (L2.Key × PV)} (e : h[n]? = some (.dct l)) : ∃ a kvs, μ[n]? = some a ∧ H a = some (.dK kvs) ∧ (kvs.map (·.1) = l.map (·.1) ∧ KeysGood (l.map (·.1))) ∧ Reps K B μ H (l.map (·.2)) (kvs.map (·.2)) := by
  obtain ⟨a, ha, kvs, h1, h2⟩ := r.cell n _ e
  exact ⟨a, kvs, ha, h1, h2⟩
theorem Rel.fz {h : MH} (r : Rel K B μ h H) {n : Nat} {l : List (L2.Key × PV)} (e : h[n]? = some (.fz l)) : ∃ a o kvs, μ[n]? = some a ∧ H a = some (.frz o (.dK kvs)) ∧ (kvs.map (·.1) = l.map (·.1) ∧ KeysGood (l.map (·.1))) ∧ Reps K B μ H (l.map (·.2)) (kvs.map (·.2)) := by
  obtain ⟨a, ha, o, kvs, h1, h2⟩ := r.cell n _ e
  exact ⟨a, o, kvs, ha, h1, h2⟩
theorem Rel.fzN {h : MH} (r : Rel K B μ h H) {n : Nat} {l : List (NestedKey × PV)} (e : h[n]? = some (.fzN l)) : ∃ a o xs vs, μ[n]? = some a ∧ H a = some (.frz o (.ext (RawN K a xs))) ∧ ((a == sysModules) = false ∧ xs.length ≤ sizeLine) ∧ (xs.map (·.1) = l.map (·.1) ∧ (l.map (·.1)).Nodup) ∧
      (∀ x ∈ xs, Rep K B μ H (nkV x.1) (.ref x.2.1) ∧ x.1.depth ≤ 8) ∧ Vals vs (xs.map (·.2.2)) ∧ Reps K B μ H (l.map (·.2)) vs := by
  obtain ⟨a, ha, o, xs, vs, h1, h2⟩ := r.cell n _ e
  exact ⟨a, o, xs, vs, ha, h1, h2⟩
theorem Rel.dcT {h : MH} (r : Rel K B μ h H) {n : Nat} {l : List (List L2.Key × PV)} (e : h[n]? = some (.dcT l)) : ∃ a kvs, μ[n]? = some a ∧ H a = some (.dT kvs) ∧ kvs.map (·.1) = l.map (·.1) ∧ Reps K B μ H (l.map (·.2)) (kvs.map (·.2)) := by
  obtain ⟨a, ha, kvs, h1, h2⟩ := r.cell n _ e
  exact ⟨a, kvs, ha, h1, h2⟩
theorem Rel.dcN {h : MH} (r : Rel K B μ h H) {n : Nat} {l : List (NestedKey × PV)} (e : h[n]? = some (.dcN l)) : ∃ a xs vs, μ[n]? = some a ∧ H a = some (.ext (RawN K a xs)) ∧ ((a == sysModules) = false ∧ xs.length ≤ sizeLine) ∧ (xs.map (·.1) = l.map (·.1) ∧ (l.map (·.1)).Nodup) ∧
      (∀ x ∈ xs, Rep K B μ H (nkV x.1) (.ref x.2.1) ∧ x.1.depth ≤ 8) ∧ Vals vs (xs.map (·.2.2)) ∧ Reps K B μ H (l.map (·.2)) vs := by
  obtain ⟨a, ha, xs, vs, h1, h2⟩ := r.cell n _ e
  exact ⟨a, xs, vs, ha, h1, h2⟩
theorem Rel.fresh {h : MH} (r : Rel K B μ h H) {p : Addr} (hp : H p = none) : p ∉ μ := fun z => by
  obtain ⟨o, e⟩ := r.tracked z
  rw [hp] at e; cases e
theorem Rel.freshB {h : MH} (r : Rel K B μ h H) {p : Addr} (hp : H p = none) : p ∉ B := fun z => by
  obtain ⟨o, e⟩ := r.trB p z
  rw [hp] at e; cases e
/-- a new thing that is no cell -/
theorem Step.new {p : Addr} {o : HO} (hp : H p = none) : Step μ H μ (upd H p o) :=
  ⟨⟨[], by simp, fun _ z => by simp at z⟩, fun a x h _ => by rw [upd_ne (ne_of_none h hp)]; exact h, fun a x h => ⟨x, by rw [upd_ne (ne_of_none h hp)]; exact h⟩, fun a x u h => by rw [upd_ne (ne_of_none h hp)]; exact h⟩
theorem CellOk.step {a : Addr} {c : Cell} (h : CellOk K B μ H a c) (s : Step μ H μ' H') (k : H' a = H a) : CellOk K B μ' H' a c := by
  cases c with
  | lst l => obtain ⟨vs, h1, h2⟩ := h; exact ⟨vs, by rw [k]; exact h1, h2.step s⟩
  | dct l => obtain ⟨vs, h1, h2, h3⟩ := h; exact ⟨vs, by rw [k]; exact h1, h2, h3.step s⟩
  | dcT l => obtain ⟨vs, h1, h2, h3⟩ := h; exact ⟨vs, by rw [k]; exact h1, h2, h3.step s⟩
  | obj c fs => obtain ⟨C, dx, fv, h1, h2, h3, h4⟩ := h; exact ⟨C, dx, fv, by rw [k]; exact h1, h2, h3, h4.step s⟩
  | fz l => obtain ⟨o, vs, h1, h2, h3⟩ := h; exact ⟨o, vs, by rw [k]; exact h1, h2, h3.step s⟩
  | dcN l => obtain ⟨xs, vs, h1, h2, h3, h4, h5, h6⟩ := h; exact ⟨xs, vs, by rw [k]; exact h1, h2, h3, fun x hx => ⟨(h4 x hx).1.step s, (h4 x hx).2⟩, h5, h6.step s⟩
  | fzN l => obtain ⟨o, xs, vs, h1, h2, h3, h4, h5, h6⟩ := h; exact ⟨o, xs, vs, by rw [k]; exact h1, h2, h3, fun x hx => ⟨(h4 x hx).1.step s, (h4 x hx).2⟩, h5, h6.step s⟩
theorem CellOk.step0 {a : Addr} {c : Cell} (h : CellOk K B μ H a c) (s : Stp0 μ H μ' H') (k : H' a = H a) : CellOk K B μ' H' a c := by
  cases c with
  | lst l => obtain ⟨vs, h1, h2⟩ := h; exact ⟨vs, by rw [k]; exact h1, h2.step0 s⟩
  | dct l => obtain ⟨vs, h1, h2, h3⟩ := h; exact ⟨vs, by rw [k]; exact h1, h2, h3.step0 s⟩
  | dcT l => obtain ⟨vs, h1, h2, h3⟩ := h; exact ⟨vs, by rw [k]; exact h1, h2, h3.step0 s⟩
  | obj c fs => obtain ⟨C, dx, fv, h1, h2, h3, h4⟩ := h; exact ⟨C, dx, fv, by rw [k]; exact h1, h2, h3, h4.step0 s⟩
  | fz l => obtain ⟨o, vs, h1, h2, h3⟩ := h; exact ⟨o, vs, by rw [k]; exact h1, h2, h3.step0 s⟩
  | dcN l => obtain ⟨xs, vs, h1, h2, h3, h4, h5, h6⟩ := h; exact ⟨xs, vs, by rw [k]; exact h1, h2, h3, fun x hx => ⟨(h4 x hx).1.step0 s, (h4 x hx).2⟩, h5, h6.step0 s⟩
  | fzN l => obtain ⟨o, xs, vs, h1, h2, h3, h4, h5, h6⟩ := h; exact ⟨o, xs, vs, by rw [k]; exact h1, h2, h3, fun x hx => ⟨(h4 x hx).1.step0 s, (h4 x hx).2⟩, h5, h6.step0 s⟩
theorem Rel.new {h : MH} (r : Rel K B μ h H) {p : Addr} {o : HO} (hp : H p = none) : Rel K B μ h (upd H p o) := by
  refine ⟨r.len, r.nd, r.sep, fun a ha => ?_, fun n c e => ?_⟩
  · obtain ⟨x, e⟩ := r.trB a ha
    exact ⟨x, by rw [upd_ne (ne_of_none e hp)]; exact e⟩
  · obtain ⟨a, ha, hc⟩ := r.cell n c e
    obtain ⟨x, ex⟩ := r.tracked (List.mem_of_getElem? ha)
    exact ⟨a, ha, hc.step (.new hp) (by rw [upd_ne (ne_of_none ex hp)])⟩
/-- a new cell -/
theorem Step.newCell {p : Addr} {o : HO} (hp : H p = none) : Step μ H (μ ++ [p]) (upd H p o) :=
  ⟨⟨[p], rfl, fun a z => by rw [List.mem_singleton] at z; rw [z]; exact hp⟩, fun a x h _ => by rw [upd_ne (ne_of_none h hp)]; exact h, fun a x h => ⟨x, by rw [upd_ne (ne_of_none h hp)]; exact h⟩, fun a x u h => by rw [upd_ne (ne_of_none h hp)]; exact h⟩
theorem Rel.newCellC {h : MH} (r : Rel K B μ h H) {p : Addr} {c0 : Cell} {o : HO} (hp : H p = none) (hr : ∀ {μ' H'}, Step μ H μ' H' → H' p = some o → CellOk K B μ' H' p c0) : Rel K B (μ ++ [p]) (h ++ [c0]) (upd H p o) := by
  have st : Step μ H (μ ++ [p]) (upd H p o) := .newCell hp
  refine ⟨by rw [List.length_append, List.length_append, r.len]; rfl, ?_, fun a ha => ?_, fun a ha => ?_, fun n c e => ?_⟩
  · rw [List.nodup_append]
    refine ⟨r.nd, by simp, fun a ha b hb e => ?_⟩
    rw [List.mem_singleton] at hb
    subst hb; subst e
    exact r.fresh hp ha
  · rw [List.mem_append, List.mem_singleton]
    rintro (z | z)
    · exact r.sep a ha z
    · subst z; exact r.freshB hp ha
  · obtain ⟨x, e⟩ := r.trB a ha
    exact ⟨x, by rw [upd_ne (ne_of_none e hp)]; exact e⟩
  · by_cases hn : n < h.length
    · rw [List.getElem?_append_left hn] at e
      obtain ⟨a, ha, hc⟩ := r.cell n c e
      obtain ⟨x, ex⟩ := r.tracked (List.mem_of_getElem? ha)
      exact ⟨a, st.get ha, hc.step st (by rw [upd_ne (ne_of_none ex hp)])⟩
    · rw [List.getElem?_append_right (by omega)] at e
      have hz : n - h.length = 0 := by
        have := (List.getElem?_eq_some_iff.mp e).1
        simp at this
        omega
      rw [hz] at e
      have ec : c = c0 := by simpa using e.symm
      subst ec
      refine ⟨p, ?_, hr st upd_same⟩
      have : n = μ.length := by rw [r.len]; omega
      subst this
      simp
theorem Rel.newCell {h : MH} (r : Rel K B μ h H) {p : Addr} {l : List PV} {vs : List V} (hp : H p = none) (hr : Reps K B μ H l vs) : Rel K B (μ ++ [p]) (h ++ [.lst l]) (upd H p (.lst vs)) :=
  r.newCellC hp fun st e => ⟨vs, e, hr.step st⟩
theorem Rel.newDct {h : MH} (r : Rel K B μ h H) {p : Addr} (hp : H p = none) : Rel K B (μ ++ [p]) (h ++ [.dct []]) (upd H p (.dK [])) :=
  r.newCellC hp fun st e => ⟨[], e, ⟨rfl, fun s hs => by simp at hs⟩, .nil⟩
theorem Rel.newDcT {h : MH} (r : Rel K B μ h H) {p : Addr} (hp : H p = none) : Rel K B (μ ++ [p]) (h ++ [.dcT []]) (upd H p (.dT [])) :=
  r.newCellC hp fun st e => ⟨[], e, rfl, .nil⟩
theorem Step.newRef {p : Addr} {h : MH} (r : Rel K B μ h H) : Rep K B (μ ++ [p]) H2 (.ref h.length) (.ref p) := by
  simp only [Rep]
  refine ⟨p, rfl, ?_⟩
  rw [← r.len]
  simp
/-- a cell written -/
theorem Step.write {n : Nat} {a : Addr} {o : HO} (ha : μ[n]? = some a) (hf : ∀ o u, H a ≠ some (.frz o u)) : Step μ H μ (upd H a o) :=
  ⟨⟨[], by simp, fun _ z => by simp at z⟩, fun b x h hm => by rw [upd_ne (fun e => hm (by rw [e]; exact List.mem_of_getElem? ha))]; exact h,
    fun b x h => by
      by_cases e : b = a
      · subst e; exact ⟨_, upd_same⟩
      · exact ⟨x, by rw [upd_ne e]; exact h⟩,
    fun b x u h => by rw [upd_ne (fun e => hf x u (by rw [← e]; exact h))]; exact h⟩
theorem Rel.writeC {h : MH} (r : Rel K B μ h H) {n : Nat} {a : Addr} {c0 : Cell} {o : HO} (ha : μ[n]? = some a) (hf : ∀ o u, H a ≠ some (.frz o u)) (hr : ∀ {μ' H'}, Step μ H μ' H' → H' a = some o → CellOk K B μ' H' a c0) : Rel K B μ (h.set n c0) (upd H a o) := by
  have st : Step μ H μ (upd H a o) := .write ha hf
  refine ⟨by rw [List.length_set, r.len], r.nd, r.sep, fun b hb => ?_, fun m c e => ?_⟩
  · obtain ⟨x, e⟩ := r.trB b hb
    exact st.trk b x e
  · by_cases hm : m = n
    · subst hm
      have hl : m < h.length := by rw [← r.len]; exact (List.getElem?_eq_some_iff.mp ha).1
      rw [List.getElem?_set_self hl] at e
      cases e
      exact ⟨a, ha, hr st upd_same⟩
    · rw [List.getElem?_set_ne (Ne.symm hm)] at e
      obtain ⟨b, hb, hc⟩ := r.cell m c e
      refine ⟨b, hb, hc.step st ?_⟩
      have : b ≠ a := fun z => by
        subst z
        exact hm (by
          obtain ⟨h1, e1⟩ := List.getElem?_eq_some_iff.mp hb
          obtain ⟨h2, e2⟩ := List.getElem?_eq_some_iff.mp ha
          exact (List.getElem_inj r.nd).mp (e1.trans e2.symm))
      rw [upd_ne this]

theorem Rel.write {h : MH} (r : Rel K B μ h H) {n : Nat} {a : Addr} {l : List PV} {vs : List V} (ha : μ[n]? = some a) (hf : ∀ o u, H a ≠ some (.frz o u)) (hr : Reps K B μ H l vs) : Rel K B μ (h.set n (.lst l)) (upd H a (.lst vs)) :=
  r.writeC ha hf fun st e => ⟨vs, e, hr.step st⟩
theorem Rel.writeD {h : MH} (r : Rel K B μ h H) {n : Nat} {a : Addr} {l : List (L2.Key × PV)} {kvs : List (L2.Key × V)} (ha : μ[n]? = some a) (hf : ∀ o u, H a ≠ some (.frz o u)) (hk : kvs.map (·.1) = l.map (·.1) ∧ KeysGood (l.map (·.1))) (hr : Reps K B μ H (l.map (·.2)) (kvs.map (·.2))) : Rel K B μ (h.set n (.dct l)) (upd H a (.dK kvs)) :=
  r.writeC ha hf fun st e => ⟨kvs, e, hk, hr.step st⟩
theorem Rel.writeT {h : MH} (r : Rel K B μ h H) {n : Nat} {a : Addr} {l : List (List L2.Key × PV)} {kvs : List (List L2.Key × V)} (ha : μ[n]? = some a) (hf : ∀ o u, H a ≠ some (.frz o u)) (hk : kvs.map (·.1) = l.map (·.1)) (hr : Reps K B μ H (l.map (·.2)) (kvs.map (·.2))) : Rel K B μ (h.set n (.dcT l)) (upd H a (.dT kvs)) :=
  r.writeC ha hf fun st e => ⟨kvs, e, hk, hr.step st⟩
theorem Rel.obj {h : MH} (r : Rel K B μ h H) {n : Nat} {c : Str} {fs : List (Str × PV)} (e : h[n]? = some (.obj c fs)) : ∃ a C dx fv, μ[n]? = some a ∧ H a = some (.ins C dx fv) ∧ CA K c C ∧ fv.map (·.1) = fs.map (·.1) ∧ Reps K B μ H (fs.map (·.2)) (fv.map (·.2)) := by
  obtain ⟨a, ha, C, dx, fv, h1, h2, h3, h4⟩ := r.cell n _ e
  exact ⟨a, C, dx, fv, ha, h1, h2, h3, h4⟩
theorem obj_look : ∀ {fs : List (Str × PV)} {fv : List (Str × V)} (f : Str), fv.map (·.1) = fs.map (·.1) → Reps K B μ H (fs.map (·.2)) (fv.map (·.2)) →
    (fs.lookup f = none ∧ fv.lookup f = none) ∨ ∃ p v, fs.lookup f = some p ∧ fv.lookup f = some v ∧ Rep K B μ H p v
  | [], [], f, _, _ => .inl ⟨rfl, rfl⟩
  | [], _ :: _, f, e, _ => by simp at e
  | _ :: _, [], f, e, _ => by simp at e
  | (j, p) :: l, (j', v) :: kvs, f, e, r => by
    simp only [List.map_cons, List.cons.injEq] at e
    obtain ⟨rfl, e⟩ := e
    obtain ⟨v', r', e1, r1, r2⟩ := r.cons_inv
    simp only [List.map_cons, List.cons.injEq] at e1
    obtain ⟨rfl, rfl⟩ := e1
    by_cases hj : f = j'
    · subst hj
      refine .inr ⟨p, v, ?_, ?_, r1⟩ <;> simp [List.lookup_cons]
    · have hb : (f == j') = false := by simpa using hj
      simp only [List.lookup_cons, hb]
      exact obj_look f e r2
theorem obj_put {p : PV} {v : V} (f : Str) (rv : Rep K B μ H p v) : ∀ {fs : List (Str × PV)} {fv : List (Str × V)}, fv.map (·.1) = fs.map (·.1) → Reps K B μ H (fs.map (·.2)) (fv.map (·.2)) →
    (L2.putF f v fv).map (·.1) = (putFP f p fs).map (·.1) ∧ Reps K B μ H ((putFP f p fs).map (·.2)) ((L2.putF f v fv).map (·.2))
  | [], [], _, _ => ⟨rfl, .cons rv .nil⟩
  | [], _ :: _, e, _ => by simp at e
  | _ :: _, [], e, _ => by simp at e
  | (j, q) :: l, (j', w) :: kvs, e, r => by
    simp only [List.map_cons, List.cons.injEq] at e
    obtain ⟨rfl, e⟩ := e
    obtain ⟨v', r', e1, r1, r2⟩ := r.cons_inv
    simp only [List.map_cons, List.cons.injEq] at e1
    obtain ⟨rfl, rfl⟩ := e1
    unfold putFP L2.putF
    by_cases hj : j' = f
    · rw [if_pos hj, if_pos hj]
      exact ⟨by simp [e], .cons rv r2⟩
    · rw [if_neg hj, if_neg hj]
      obtain ⟨i1, i2⟩ := obj_put f rv e r2
      exact ⟨by simp [i1], .cons r1 i2⟩
theorem oview_ok {h : MH} (r : Rel K B μ h H) {c : Str} {p : PV} {x : V} {fs : List (Str × PV)} (rp : Rep K B μ H p x) (e : oview c p h = some fs) : ∃ n a C dx fv, p = .ref n ∧ x = .ref a ∧ μ[n]? = some a ∧ h[n]? = some (.obj c fs) ∧ H a = some (.ins C dx fv) ∧ CA K c C ∧ fv.map (·.1) = fs.map (·.1) ∧ Reps K B μ H (fs.map (·.2)) (fv.map (·.2)) := by
  cases p with
  | ref n =>
    simp only [oview] at e
    split at e
    · rename_i d fs' hl
      split at e
      · rename_i ed
        cases e
        subst ed
        simp only [Rep] at rp
        obtain ⟨a, ex, ha⟩ := rp
        obtain ⟨b, C, dx, fv, hb, h1, h2, h3, h4⟩ := r.obj hl
        rw [ha] at hb; cases hb
        exact ⟨n, a, C, dx, fv, rfl, ex, ha, hl, h1, h2, h3, h4⟩
      · cases e
    · cases e
  | _ => simp [oview] at e
theorem Rel.writeO {h : MH} (r : Rel K B μ h H) {n : Nat} {a : Addr} {c : Str} {C dx : Addr} {fs : List (Str × PV)} {fv : List (Str × V)} (ha : μ[n]? = some a) (hf : ∀ o u, H a ≠ some (.frz o u)) (hc : CA K c C) (hk : fv.map (·.1) = fs.map (·.1)) (hr : Reps K B μ H (fs.map (·.2)) (fv.map (·.2))) : Rel K B μ (h.set n (.obj c fs)) (upd H a (.ins C dx fv)) :=
  r.writeC ha hf fun st e => ⟨C, dx, fv, e, hc, hk, hr.step st⟩
theorem dct_val {κ : Type} [DecidableEq κ] : ∀ {l : List (κ × PV)} {kvs : List (κ × V)} (k : κ), kvs.map (·.1) = l.map (·.1) → Reps K B μ H (l.map (·.2)) (kvs.map (·.2)) →
    (valP l k = none ∧ L2.valV kvs k = none) ∨ ∃ p v, valP l k = some p ∧ L2.valV kvs k = some v ∧ Rep K B μ H p v
  | [], [], k, _, _ => .inl ⟨rfl, rfl⟩
  | [], _ :: _, k, e, _ => by simp at e
  | _ :: _, [], k, e, _ => by simp at e
  | (j, p) :: l, (j', v) :: kvs, k, e, r => by
    simp only [List.map_cons, List.cons.injEq] at e
    obtain ⟨rfl, e⟩ := e
    obtain ⟨v', r', e1, r1, r2⟩ := r.cons_inv
    simp only [List.map_cons, List.cons.injEq] at e1
    obtain ⟨rfl, rfl⟩ := e1
    by_cases hj : j' = k
    · refine .inr ⟨p, v, ?_, ?_, r1⟩
      · simp [valP, List.find?_cons, hj]
      · simp [L2.valV, List.find?_cons, hj]
    · have ih := dct_val (l := l) (kvs := kvs) k e r2
      have e1 : valP ((j', p) :: l) k = valP l k := by simp [valP, List.find?_cons, hj]
      have e2 : L2.valV ((j', v) :: kvs) k = L2.valV kvs k := by simp [L2.valV, List.find?_cons, hj]
      rw [e1, e2]
      exact ih
theorem dct_any {κ : Type} [DecidableEq κ] {l : List (κ × PV)} {kvs : List (κ × V)} (k : κ) (e : kvs.map (·.1) = l.map (·.1)) : (kvs.any fun kv => decide (kv.1 = k)) = (l.any fun kv => decide (kv.1 = k)) := by
  have h1 : (kvs.any fun kv => decide (kv.1 = k)) = ((kvs.map (·.1)).any fun j => decide (j = k)) := by rw [List.any_map]; rfl
  have h2 : (l.any fun kv => decide (kv.1 = k)) = ((l.map (·.1)).any fun j => decide (j = k)) := by rw [List.any_map]; rfl
  rw [h1, h2, e]
theorem dct_map {κ : Type} [DecidableEq κ] {p : PV} {v : V} (rv : Rep K B μ H p v) : ∀ {l : List (κ × PV)} {kvs : List (κ × V)} (k : κ), kvs.map (·.1) = l.map (·.1) → Reps K B μ H (l.map (·.2)) (kvs.map (·.2)) →
    (kvs.map fun kv => if kv.1 = k then (kv.1, v) else kv).map (·.1) = (l.map fun kv => if kv.1 = k then (kv.1, p) else kv).map (·.1) ∧
    Reps K B μ H ((l.map fun kv => if kv.1 = k then (kv.1, p) else kv).map (·.2)) ((kvs.map fun kv => if kv.1 = k then (kv.1, v) else kv).map (·.2))
  | [], [], k, _, _ => ⟨rfl, .nil⟩
  | [], _ :: _, k, e, _ => by simp at e
  | _ :: _, [], k, e, _ => by simp at e
  | (j, q) :: l, (j', w) :: kvs, k, e, r => by
    simp only [List.map_cons, List.cons.injEq] at e
    obtain ⟨rfl, e⟩ := e
    obtain ⟨v', r', e1, r1, r2⟩ := r.cons_inv
    simp only [List.map_cons, List.cons.injEq] at e1
    obtain ⟨rfl, rfl⟩ := e1
    obtain ⟨i1, i2⟩ := dct_map rv (l := l) (kvs := kvs) k e r2
    simp only [List.map_cons]
    by_cases hj : j' = k
    · simp only [hj, if_true]
      exact ⟨by rw [i1], .cons rv i2⟩
    · simp only [hj, if_false]
      exact ⟨by rw [i1], .cons r1 i2⟩
theorem dct_put {κ : Type} [DecidableEq κ] {p : PV} {v : V} (rv : Rep K B μ H p v) {l : List (κ × PV)} {kvs : List (κ × V)} (k : κ) (e : kvs.map (·.1) = l.map (·.1)) (r : Reps K B μ H (l.map (·.2)) (kvs.map (·.2))) :
    (L2.putK kvs k v).map (·.1) = (putP l k p).map (·.1) ∧ Reps K B μ H ((putP l k p).map (·.2)) ((L2.putK kvs k v).map (·.2)) := by
  unfold L2.putK putP
  rw [dct_any k e]
  split
  · exact dct_map rv k e r
  · refine ⟨by rw [List.map_append, List.map_append, e]; rfl, ?_⟩
    rw [List.map_append, List.map_append]
    exact r.append (.cons rv .nil)
theorem dct_map_keys {κ : Type} [DecidableEq κ] (k : κ) (p : PV) (l : List (κ × PV)) : (l.map fun kv => if kv.1 = k then (kv.1, p) else kv).map (·.1) = l.map (·.1) := by
  induction l with
  | nil => rfl
  | cons x l ih =>
    rw [List.map_cons, List.map_cons, List.map_cons, ih]
    congr 1
    split <;> rfl
theorem keys_put {l : List (L2.Key × PV)} {k : L2.Key} {p : PV} (g : KeysGood (l.map (·.1))) (gk : ∀ s, k = Sum.inr s → StrGood s) : KeysGood ((putP l k p).map (·.1)) := by
  unfold putP
  split
  · rw [dct_map_keys]; exact g
  · intro s hs
    rw [List.map_append, List.mem_append] at hs
    rcases hs with hs | hs
    · exact g s hs
    · simp only [List.map_cons, List.map_nil, List.mem_singleton] at hs
      exact gk s hs.symm
theorem keyP_good {q : PV} {x : V} {k : L2.Key} (r : Rep K B μ H q x) (e : keyP q = some k) : ∀ s, k = Sum.inr s → StrGood s := by
  cases q with
  | int i => simp only [keyP, Option.some.injEq] at e; subst e; intro s z; cases z
  | str t => simp only [keyP, Option.some.injEq] at e; subst e; intro s z; cases z; simp only [Rep] at r; exact r.2
  | _ => simp [keyP] at e
theorem dview_good {h : MH} (r : Rel K B μ h H) {p : PV} {l : List (L2.Key × PV)} (e : dview p h = some l) : KeysGood (l.map (·.1)) := by
  cases p with
  | ref n =>
    simp only [dview] at e
    split at e
    · rename_i l' hl
      cases e
      obtain ⟨b, kvs, hb, h1, h2, h3⟩ := r.dct hl
      exact h2.2
    · rename_i l' hl
      cases e
      obtain ⟨b, o, kvs, hb, h1, h2, h3⟩ := r.fz hl
      exact h2.2
    · cases e
  | _ => simp [dview] at e
theorem dct_len {κ : Type} {l : List (κ × PV)} {kvs : List (κ × V)} (e : kvs.map (·.1) = l.map (·.1)) : kvs.length = l.length := by
  have := congrArg List.length e
  simpa using this
theorem keyP_V {p : PV} {x : V} {k : L2.Key} (r : Rep K B μ H p x) (e : keyP p = some k) : x = L2.kV k := by
  cases p with
  | int i => simp only [keyP, Option.some.injEq] at e; subst e; simp only [Rep] at r; rw [r]; rfl
  | str s => simp only [keyP, Option.some.injEq] at e; subst e; simp only [Rep] at r; rw [r.1]; rfl
  | _ => simp [keyP] at e
theorem tview_ok {h : MH} (r : Rel K B μ h H) {p : PV} {x : V} {l : List (List L2.Key × PV)} (rp : Rep K B μ H p x) (e : tview p h = some l) : ∃ n a kvs, p = .ref n ∧ x = .ref a ∧ μ[n]? = some a ∧ h[n]? = some (.dcT l) ∧ H a = some (.dT kvs) ∧ kvs.map (·.1) = l.map (·.1) ∧ Reps K B μ H (l.map (·.2)) (kvs.map (·.2)) := by
  cases p with
  | ref n =>
    simp only [tview] at e
    split at e
    · rename_i l' hl
      cases e
      simp only [Rep] at rp
      obtain ⟨a, ex, ha⟩ := rp
      obtain ⟨b, kvs, hb, h1, h2, h3⟩ := r.dcT hl
      rw [ha] at hb; cases hb
      exact ⟨n, a, kvs, rfl, ex, ha, hl, h1, h2, h3⟩
    · cases e
  | _ => simp [tview] at e
theorem keysP_V : ∀ {ps : List PV} {xs : List V} {ks : List L2.Key}, Reps K B μ H ps xs → keysP ps = some ks → xs = ks.map L2.kV
  | [], xs, ks, r, e => by
    simp only [keysP, Option.some.injEq] at e; subst e
    rw [r.nil_inv]; rfl
  | p :: ps, xs, ks, r, e => by
    obtain ⟨v, t, rfl, r1, r2⟩ := r.cons_inv
    simp only [keysP] at e
    split at e
    · rename_i k l h1 h2
      cases e
      rw [keyP_V r1 h1, keysP_V r2 h2]; rfl
    · cases e
theorem dview_ok {h : MH} (r : Rel K B μ h H) {p : PV} {x : V} {l : List (L2.Key × PV)} (rp : Rep K B μ H p x) (e : dview p h = some l) : ∃ n a kvs, p = .ref n ∧ x = .ref a ∧ μ[n]? = some a ∧ (h[n]? = some (.dct l) ∨ h[n]? = some (.fz l)) ∧ Rd H a (.dK kvs) ∧ kvs.map (·.1) = l.map (·.1) ∧ Reps K B μ H (l.map (·.2)) (kvs.map (·.2)) := by
  cases p with
  | ref n =>
    simp only [dview] at e
    split at e
    · rename_i l' hl
      cases e
      simp only [Rep] at rp
      obtain ⟨a, ex, ha⟩ := rp
      obtain ⟨b, kvs, hb, h1, h2, h3⟩ := r.dct hl
      rw [ha] at hb; cases hb
      exact ⟨n, a, kvs, rfl, ex, ha, .inl hl, .inl h1, h2.1, h3⟩
    · rename_i l' hl
      cases e
      simp only [Rep] at rp
      obtain ⟨a, ex, ha⟩ := rp
      obtain ⟨b, o, kvs, hb, h1, h2, h3⟩ := r.fz hl
      rw [ha] at hb; cases hb
      exact ⟨n, a, kvs, rfl, ex, ha, .inr hl, .inr ⟨o, h1⟩, h2.1, h3⟩
    · cases e
  | _ => simp [dview] at e

theorem dview0_ok {h : MH} (r : Rel K B μ h H) {p : PV} {x : V} {l : List (L2.Key × PV)} (rp : Rep K B μ H p x) (e : dview0 p h = some l) : ∃ n a kvs, p = .ref n ∧ x = .ref a ∧ μ[n]? = some a ∧ h[n]? = some (.dct l) ∧ H a = some (.dK kvs) ∧ kvs.map (·.1) = l.map (·.1) ∧ Reps K B μ H (l.map (·.2)) (kvs.map (·.2)) := by
  cases p with
  | ref n =>
    simp only [dview0] at e
    split at e
    · rename_i l' hl
      cases e
      simp only [Rep] at rp
      obtain ⟨a, ex, ha⟩ := rp
      obtain ⟨b, kvs, hb, h1, h2, h3⟩ := r.dct hl
      rw [ha] at hb; cases hb
      exact ⟨n, a, kvs, rfl, ex, ha, hl, h1, h2.1, h3⟩
    · cases e
  | _ => simp [dview0] at e
theorem dview0_good {h : MH} (r : Rel K B μ h H) {p : PV} {l : List (L2.Key × PV)} (e : dview0 p h = some l) : KeysGood (l.map (·.1)) := by
  cases p with
  | ref n =>
    simp only [dview0] at e
    split at e
    · rename_i l' hl
      cases e
      obtain ⟨b, kvs, hb, h1, h2, h3⟩ := r.dct hl
      exact h2.2
    · cases e
  | _ => simp [dview0] at e
omit [Wd K] in
theorem dget_r {a : Addr} {kvs : List (L2.Key × V)} {k : L2.Key} (e : Rd H a (.dK kvs)) : L2.DGet H a (L2.kV k) (L2.valV kvs k) := .inl ⟨kvs, k, e, rfl, rfl⟩
theorem nfz {H : Hp} {a : Addr} {x : HO} (e : H a = some x) (hx : ∀ o u, x ≠ .frz o u := by intro _ _ z; cases z) : ∀ o u, H a ≠ some (.frz o u) := fun o u z => by rw [e] at z; exact hx o u (Option.some.inj z)
/-- a dict locked -/
theorem Rel.lock {h : MH} (r : Rel K B μ h H) {n : Nat} {l : List (L2.Key × PV)} (e : h[n]? = some (.dct l)) : ∃ a kvs, μ[n]? = some a ∧ H a = some (.dK kvs) ∧ ∀ o, Step μ H μ (upd H a (.frz o (.dK kvs))) ∧ Rel K B μ (h.set n (.fz l)) (upd H a (.frz o (.dK kvs))) := by
  obtain ⟨a, kvs, ha, hH, h2, h3⟩ := r.dct e
  have hf : ∀ o u, H a ≠ some (.frz o u) := fun o u z => by rw [hH] at z; cases z
  exact ⟨a, kvs, ha, hH, fun o => ⟨.write ha hf, r.writeC ha hf fun st e => ⟨o, kvs, e, h2, h3.step st⟩⟩⟩
/-- .. and unlocked -/
theorem Rel.unlock {h : MH} (r : Rel K B μ h H) {n : Nat} {a : Addr} {l : List (L2.Key × PV)} {o : Obj} {kvs : List (L2.Key × V)} (e : h[n]? = some (.fz l)) (ha : μ[n]? = some a) (hH : H a = some (.frz o (.dK kvs))) : Rel K B μ (h.set n (.dct l)) (upd H a (.dK kvs)) ∧
    (∀ {p : PV} {v : V}, Rep K B μ H p v → Rep K B μ (upd H a (.dK kvs)) p v) := by
  obtain ⟨b, o', kvs', hb, h1, h2, h3⟩ := r.fz e
  rw [ha] at hb; cases hb
  rw [hH] at h1; cases h1
  have st : Stp0 μ H μ (upd H a (.dK kvs)) := ⟨⟨[], by simp, fun _ z => by simp at z⟩, fun c x q hm => by
    rw [upd_ne (fun z => hm (by rw [z]; exact List.mem_of_getElem? ha))]; exact q⟩
  refine ⟨⟨by rw [List.length_set, r.len], r.nd, r.sep, fun b hb => ?_, fun m c e => ?_⟩, fun {p v} q => q.step0 st⟩
  · obtain ⟨x, e⟩ := r.trB b hb
    by_cases z : b = a
    · subst z; exact ⟨_, upd_same⟩
    · exact ⟨x, by rw [upd_ne z]; exact e⟩
  · by_cases hm : m = n
    · subst hm
      have hl : m < h.length := by rw [← r.len]; exact (List.getElem?_eq_some_iff.mp ha).1
      rw [List.getElem?_set_self hl] at e
      cases e
      exact ⟨a, ha, kvs, upd_same, h2, h3.step0 st⟩
    · rw [List.getElem?_set_ne (Ne.symm hm)] at e
      obtain ⟨b, hb, hc⟩ := r.cell m c e
      refine ⟨b, hb, hc.step0 st ?_⟩
      have : b ≠ a := fun z => by
        subst z
        exact hm (by
          obtain ⟨h1, e1⟩ := List.getElem?_eq_some_iff.mp hb
          obtain ⟨h2, e2⟩ := List.getElem?_eq_some_iff.mp ha
          exact (List.getElem_inj r.nd).mp (e1.trans e2.symm))
      rw [upd_ne this]
theorem Rel.lockN {h : MH} (r : Rel K B μ h H) {n : Nat} {l : List (NestedKey × PV)} (e : h[n]? = some (.dcN l)) : ∃ a xs, μ[n]? = some a ∧ H a = some (.ext (RawN K a xs)) ∧ ∀ o, Step μ H μ (upd H a (.frz o (.ext (RawN K a xs)))) ∧ Rel K B μ (h.set n (.fzN l)) (upd H a (.frz o (.ext (RawN K a xs)))) := by
  obtain ⟨a, xs, vs, ha, hH, h2, h3, h4, h5, h6⟩ := r.dcN e
  have hf : ∀ o u, H a ≠ some (.frz o u) := fun o u z => by rw [hH] at z; cases z
  exact ⟨a, xs, ha, hH, fun o => ⟨.write ha hf, r.writeC ha hf fun st e => ⟨o, xs, vs, e, h2, h3, fun x hx => ⟨(h4 x hx).1.step st, (h4 x hx).2⟩, h5, h6.step st⟩⟩⟩
theorem Rel.unlockN {h : MH} (r : Rel K B μ h H) {n : Nat} {a : Addr} {l : List (NestedKey × PV)} {o : Obj} {xs : List (NestedKey × Addr × Value)} (e : h[n]? = some (.fzN l)) (ha : μ[n]? = some a) (hH : H a = some (.frz o (.ext (RawN K a xs)))) : Rel K B μ (h.set n (.dcN l)) (upd H a (.ext (RawN K a xs))) ∧
    (∀ {p : PV} {v : V}, Rep K B μ H p v → Rep K B μ (upd H a (.ext (RawN K a xs))) p v) := by
  obtain ⟨b, o', xs', vs', hb, h1, h2, h3, h4, h5, h6⟩ := r.fzN e
  rw [ha] at hb; cases hb
  rw [hH] at h1
  have hq : HO.ext (RawN K a xs) = HO.ext (RawN K a xs') := by
    have h1' := Option.some.inj h1
    injection h1'
  have st : Stp0 μ H μ (upd H a (.ext (RawN K a xs))) := ⟨⟨[], by simp, fun _ z => by simp at z⟩, fun c x q hm => by
    rw [upd_ne (fun z => hm (by rw [z]; exact List.mem_of_getElem? ha))]; exact q⟩
  refine ⟨⟨by rw [List.length_set, r.len], r.nd, r.sep, fun b hb => ?_, fun m c e => ?_⟩, fun {p v} q => q.step0 st⟩
  · obtain ⟨x, e⟩ := r.trB b hb
    by_cases z : b = a
    · subst z; exact ⟨_, upd_same⟩
    · exact ⟨x, by rw [upd_ne z]; exact e⟩
  · by_cases hm : m = n
    · subst hm
      have hl : m < h.length := by rw [← r.len]; exact (List.getElem?_eq_some_iff.mp ha).1
      rw [List.getElem?_set_self hl] at e
      cases e
      exact ⟨a, ha, xs', vs', by rw [upd_same, hq], h2, h3, fun x hx => ⟨(h4 x hx).1.step0 st, (h4 x hx).2⟩, h5, h6.step0 st⟩
    · rw [List.getElem?_set_ne (Ne.symm hm)] at e
      obtain ⟨b, hb, hc⟩ := r.cell m c e
      refine ⟨b, hb, hc.step0 st ?_⟩
      have : b ≠ a := fun z => by
        subst z
        exact hm (by
          obtain ⟨h1, e1⟩ := List.getElem?_eq_some_iff.mp hb
          obtain ⟨h2, e2⟩ := List.getElem?_eq_some_iff.mp ha
          exact (List.getElem_inj r.nd).mp (e1.trans e2.symm))
      rw [upd_ne this]
/-- locked, walked, unlocked -/
theorem Step.locked {a : Addr} {u : HO} {o : Obj} (hH : H a = some u) (hu : ∀ o v, u ≠ .frz o v) (hm : a ∈ μ) (s : Step μ (upd H a (.frz o u)) μ' H') : Step μ H μ' (upd H' a u) := by
  have ha' : H' a = some (.frz o u) := s.fz a o u upd_same
  refine ⟨?_, fun b x h hb => ?_, fun b x h => ?_, fun b x v h => ?_⟩
  · obtain ⟨ν, e, hν⟩ := s.pre
    refine ⟨ν, e, fun b hb => ?_⟩
    have := hν b hb
    by_cases z : b = a
    · subst z; rw [upd_same] at this; cases this
    · rwa [upd_ne z] at this
  · have z : b ≠ a := fun z => hb (by rw [z]; exact hm)
    rw [upd_ne z]
    exact s.keep b x (by rw [upd_ne z]; exact h) hb
  · by_cases z : b = a
    · subst z; exact ⟨_, upd_same⟩
    · rw [upd_ne z]
      exact s.trk b x (by rw [upd_ne z]; exact h)
  · have z : b ≠ a := fun z => by subst z; rw [hH] at h; cases h; exact hu _ _ rfl
    rw [upd_ne z]
    exact s.fz b x v (by rw [upd_ne z]; exact h)
def Slots (K : PySem.W.Frag) [Wd K] (B μ : List Addr) (H : Hp) (ρ : Slts) (σ : L2.St) : Prop := ρ.length = σ.length ∧ ∀ (i : Nat) (v : PV), ρ[i]? = some (some v) → ∃ x, σ[i]? = some (some x) ∧ Rep K B μ H v x
theorem Slots.step {ρ : Slts} {σ : L2.St} (h : Slots K B μ H ρ σ) (s : Step μ H μ' H') : Slots K B μ' H' ρ σ := ⟨h.1, fun i v e => by
  obtain ⟨x, e1, r⟩ := h.2 i v e
  exact ⟨x, e1, r.step s⟩⟩
theorem Slots.set {ρ : Slts} {σ : L2.St} (h : Slots K B μ H ρ σ) {v : PV} {x : V} (r : Rep K B μ H v x) (i : Nat) : Slots K B μ H (ρ.set i (some v)) (σ.set i (some x)) := by
  refine ⟨by rw [List.length_set, List.length_set, h.1], fun j w e => ?_⟩
  by_cases hj : i = j
  · subst hj
    have hl : i < ρ.length := by
      have := (List.getElem?_eq_some_iff.mp e).1
      rwa [List.length_set] at this
    rw [List.getElem?_set_self hl] at e
    cases e
    exact ⟨x, by rw [List.getElem?_set_self (by rw [← h.1]; exact hl)], r⟩
  · rw [List.getElem?_set_ne hj] at e
    obtain ⟨y, e1, r1⟩ := h.2 j w e
    exact ⟨y, by rw [List.getElem?_set_ne hj]; exact e1, r1⟩
theorem Slots.setN {ρ : Slts} {σ : L2.St} (h : Slots K B μ H ρ σ) (i : Nat) : Slots K B μ H (ρ.set i none) (σ.set i none) := by
  refine ⟨by rw [List.length_set, List.length_set, h.1], fun j w e => ?_⟩
  by_cases hj : i = j
  · subst hj
    have hl : i < ρ.length := by
      have := (List.getElem?_eq_some_iff.mp e).1
      rwa [List.length_set] at this
    rw [List.getElem?_set_self hl] at e
    cases e
  · rw [List.getElem?_set_ne hj] at e
    obtain ⟨y, e1, r1⟩ := h.2 j w e
    exact ⟨y, by rw [List.getElem?_set_ne hj]; exact e1, r1⟩
theorem Slots.wipe {ρ : Slts} {σ : L2.St} (h : Slots K B μ H ρ σ) : ∀ vs : List Nat, Slots K B μ H (wipeP ρ vs) (wipe σ vs)
  | [] => h
  | v :: vs => by unfold wipeP L2.wipe; exact (Slots.wipe h vs).setN v
end

section
variable {K : PySem.W.Frag} [Wd K] {B B' μ μ' : List Addr} {H : Hp}
mutual
/-- another ban, other cells, where no reference stands -/
theorem Rep.plain (hL : ∀ a xs, SxL K B μ H a xs → SxL K B' μ' H a xs) (hT : ∀ a xs, SxT K μ H a xs → SxT K μ' H a xs) : ∀ {p : PV} {v : V}, noRef p = true → Rep K B μ H p v → Rep K B' μ' H p v
  | .non, _, _, h => by simpa only [Rep] using h
  | .bl _, _, _, h => by simpa only [Rep] using h
  | .int _, _, _, h => by simpa only [Rep] using h
  | .str _, _, _, h => by simpa only [Rep] using h
  | .tup l, _, n, h => by
    simp only [Rep] at h ⊢
    obtain ⟨a, vs, e, hs, hr⟩ := h
    exact ⟨a, vs, e, hT _ _ hs, Reps.plain hL hT (by simpa only [noRef] using n) hr⟩
  | .lst l, _, n, h => by
    simp only [Rep] at h ⊢
    obtain ⟨a, vs, e, hs, hr⟩ := h
    exact ⟨a, vs, e, hL _ _ hs, Reps.plain hL hT (by simpa only [noRef] using n) hr⟩
  | .ref m, _, n, h => by simp only [noRef] at n; cases n
theorem Reps.plain (hL : ∀ a xs, SxL K B μ H a xs → SxL K B' μ' H a xs) (hT : ∀ a xs, SxT K μ H a xs → SxT K μ' H a xs) : ∀ {ps : List PV} {vs : List V}, noRefs ps = true → Reps K B μ H ps vs → Reps K B' μ' H ps vs
  | [], _, _, h => by rw [h.nil_inv]; exact .nil
  | p :: ps, _, n, h => by
    obtain ⟨v, r, rfl, h1, t⟩ := h.cons_inv
    simp only [noRefs, Bool.and_eq_true] at n
    exact .cons (Rep.plain hL hT n.1 h1) (Reps.plain hL hT n.2 t)
end
mutual
theorem Rep.noLst (hT : ∀ a xs, SxT K μ H a xs → SxT K μ' H a xs) : ∀ {p : PV} {v : V}, Rg.noLst p = true → Rep K B μ H p v → Rep K B' μ' H p v
  | .non, _, _, h => by simpa only [Rep] using h
  | .bl _, _, _, h => by simpa only [Rep] using h
  | .int _, _, _, h => by simpa only [Rep] using h
  | .str _, _, _, h => by simpa only [Rep] using h
  | .tup l, _, n, h => by
    simp only [Rep] at h ⊢
    obtain ⟨a, vs, e, hs, hr⟩ := h
    exact ⟨a, vs, e, hT _ _ hs, Reps.noLst hT (by simpa only [Rg.noLst] using n) hr⟩
  | .lst l, _, n, h => by simp only [Rg.noLst] at n; cases n
  | .ref m, _, n, h => by simp only [Rg.noLst] at n; cases n
theorem Reps.noLst (hT : ∀ a xs, SxT K μ H a xs → SxT K μ' H a xs) : ∀ {ps : List PV} {vs : List V}, Rg.noLsts ps = true → Reps K B μ H ps vs → Reps K B' μ' H ps vs
  | [], _, _, h => by rw [h.nil_inv]; exact .nil
  | p :: ps, _, n, h => by
    obtain ⟨v, r, rfl, h1, t⟩ := h.cons_inv
    simp only [noLsts, Bool.and_eq_true] at n
    exact .cons (Rep.noLst hT n.1 h1) (Reps.noLst hT n.2 t)
end
end
/-- an exception's class and dict, by the name of its class -/
abbrev XCT := Str → Value → Option Addr → Prop
/-- rel: how the result stands -/
def PostG {α β : Type} (K : PySem.W.Frag) [Wd K] (B : List Addr) (XC : XCT) (W : WX) (σ : L2.St) (rel : List Addr → Hp → α → β → Prop) (Q : β → Hp → Prop) (r : R (α × MH)) (μ : List Addr) (H : Hp) : Prop :=
  match r with
  | .ok (v, h') => ∀ x μ' H', Step μ H μ' H' → Rel K B μ' h' H' → rel μ' H' v x → Q x H'
  | .error .stuck => False
  | .error (.exc c h') => ∀ cls d μ' H', Step μ H μ' H' → Rel K B μ' h' H' → XC c cls d → W cls d σ H'
section
variable {α β α' β' : Type} {K : PySem.W.Frag} [Wd K] {B : List Addr} {XC : XCT} {W : WX} {σ : L2.St} {rel : List Addr → Hp → α → β → Prop} {rel' : List Addr → Hp → α' → β' → Prop} {Q : β → Hp → Prop} {Q' : β' → Hp → Prop} {μ μ1 : List Addr} {H H1 : Hp}
theorem PostG.step {r : R (α × MH)} (p : PostG K B XC W σ rel Q r μ H) (s : Step μ H μ1 H1) : PostG K B XC W σ rel Q r μ1 H1 := by
  unfold PostG at p ⊢
  match r, p with
  | .ok (v, h'), p => exact fun x μ' H' t rl rp => p x μ' H' (s.trans t) rl rp
  | .error .stuck, p => exact p
  | .error (.exc c h'), p => exact fun cls d μ' H' t rl xc => p cls d μ' H' (s.trans t) rl xc
theorem PostG.bnd {r : R (α × MH)} {f : α × MH → R (α' × MH)} (p : PostG K B XC W σ rel' Q' (bnd r f) μ H)
    (k : ∀ v h1 x μ1 H1, r = .ok (v, h1) → Step μ H μ1 H1 → Rel K B μ1 h1 H1 → rel μ1 H1 v x → PostG K B XC W σ rel' Q' (f (v, h1)) μ1 H1 → Q x H1) : PostG K B XC W σ rel Q r μ H := by
  match r, p with
  | .ok (v, h'), p => exact fun x μ' H' t rl rp => k v h' x μ' H' rfl t rl rp (PostG.step p t)
  | .error .stuck, p => exact p
  | .error (.exc c h'), p => exact p
/-- the last step: a value without a new heap -/
theorem PostG.fin {x : R α} {h : MH} (p : PostG K B XC W σ rel Q (Rg.bnd x fun v => .ok (v, h)) μ H) (ne : ∀ c h', x ≠ .error (.exc c h')) : ∃ v, x = .ok v ∧ ∀ y μ' H', Step μ H μ' H' → Rel K B μ' h H' → rel μ' H' v y → Q y H' := by
  match x, p, ne with
  | .ok v, p, _ => exact ⟨v, rfl, p⟩
  | .error .stuck, p, _ => exact p.elim
  | .error (.exc c h'), _, ne => exact (ne c h' rfl).elim
end
end Rg

namespace Rg
open PySem PySem.Spec PyProof.Rows L2
theorem big_le : big ≤ sizeLine := by rw [sizeLine_eq]; decide
section
variable {K : PySem.W.Frag} [Wd K] {B μ : List Addr} {h : MH} {H : Hp}
theorem Rep.non_iff {x : V} : Rep K B μ H .non x ↔ x = .non := by simp only [Rep]
theorem Rep.bl_iff {b : Bool} {x : V} : Rep K B μ H (.bl b) x ↔ x = .bl b := by simp only [Rep]
theorem Rep.int_iff {i : Int} {x : V} : Rep K B μ H (.int i) x ↔ x = .int i := by simp only [Rep]
theorem Rep.str_iff {s : Str} {x : V} : Rep K B μ H (.str s) x ↔ x = .str s ∧ s.length ≤ big ∧ PyData.strOk s = true := by simp only [Rep]
theorem Rep.tup_iff {l : List PV} {x : V} : Rep K B μ H (.tup l) x ↔ ∃ a vs, x = .ref a ∧ SxT K μ H a vs ∧ Reps K B μ H l vs := by simp only [Rep]
theorem Rep.lst_iff {l : List PV} {x : V} : Rep K B μ H (.lst l) x ↔ ∃ a vs, x = .ref a ∧ SxL K B μ H a vs ∧ Reps K B μ H l vs := by simp only [Rep]
theorem Rep.ref_iff {n : Nat} {x : V} : Rep K B μ H (.ref n) x ↔ ∃ a, x = .ref a ∧ μ[n]? = some a := by simp only [Rep]
theorem Rep.int {i : Int} : Rep K B μ H (.int i) (.int i) := by simp only [Rep]
theorem Rep.bl {b : Bool} : Rep K B μ H (.bl b) (.bl b) := by simp only [Rep]
theorem Rep.non : Rep K B μ H .non .non := by simp only [Rep]
theorem Rep.newTup (r : Rel K B μ h H) {p : Addr} {l : List PV} {vs : List V} (hp : H p = none) (t : Reps K B μ H l vs) : Rep K B μ (upd H p (.tup vs)) (.tup l) (.ref p) :=
  Rep.tup_iff.mpr ⟨p, vs, rfl, .inl ⟨.inl upd_same, r.fresh hp⟩, t.step (.new hp)⟩
theorem Rep.newLst (r : Rel K B μ h H) {p : Addr} {l : List PV} {vs : List V} (hp : H p = none) (t : Reps K B μ H l vs) : Rep K B μ (upd H p (.lst vs)) (.lst l) (.ref p) :=
  Rep.lst_iff.mpr ⟨p, vs, rfl, .inl ⟨.inl upd_same, r.freshB hp, r.fresh hp⟩, t.step (.new hp)⟩
theorem lview_ok (r : Rel K B μ h H) {v : PV} {x : V} {l : List PV} (rp : Rep K B μ H v x) (e : lview v h = some l) : ∃ a vs, x = .ref a ∧ SqL K H a vs ∧ Reps K B μ H l vs := by
  cases v with
  | lst m =>
    simp only [lview, Option.some.injEq] at e
    subst e
    obtain ⟨a, vs, e, hs, t⟩ := Rep.lst_iff.mp rp
    exact ⟨a, vs, e, hs.sq, t⟩
  | ref n =>
    simp only [lview] at e
    obtain ⟨a, ex, ha⟩ := Rep.ref_iff.mp rp
    split at e
    · rename_i l' hc
      cases e
      obtain ⟨b, vs, hb, h1, h2⟩ := r.lst hc
      rw [ha] at hb; cases hb
      exact ⟨a, vs, ex, .inl (.inl h1), h2⟩
    · cases e
  | _ => simp only [lview] at e; cases e
theorem sview_ok (r : Rel K B μ h H) {v : PV} {x : V} {l : List PV} (rp : Rep K B μ H v x) (e : sview v h = some l) : ∃ a vs, x = .ref a ∧ (SqL K H a vs ∨ SqT K H a vs) ∧ Reps K B μ H l vs := by
  cases v with
  | tup m =>
    simp only [sview, Option.some.injEq] at e
    subst e
    obtain ⟨a, vs, e, hs, t⟩ := Rep.tup_iff.mp rp
    exact ⟨a, vs, e, .inr hs.sq, t⟩
  | lst m =>
    obtain ⟨a, vs, e, hs, t⟩ := lview_ok r rp (l := l) (by simpa only [sview, lview] using e)
    exact ⟨a, vs, e, .inl hs, t⟩
  | ref n =>
    obtain ⟨a, vs, e, hs, t⟩ := lview_ok r rp (l := l) (by simpa only [sview, lview] using e)
    exact ⟨a, vs, e, .inl hs, t⟩
  | _ => simp only [sview] at e; cases e
theorem Reps.all_int : ∀ {l : List PV} {ns : List Int} {vs : List V}, intsP l = some ns → Reps K B μ H l vs → vs = ns.map V.int
  | [], _, _, e, t => by simp only [intsP, Option.some.injEq] at e; subst e; rw [t.nil_inv]; rfl
  | .int i :: r, ns, vs, e, t => by
    simp only [intsP] at e
    split at e
    · rename_i m hm
      cases e
      obtain ⟨v, w, rfl, h1, t⟩ := t.cons_inv
      rw [Rep.int_iff.mp h1, Reps.all_int hm t]
      rfl
    · cases e
  | .non :: _, _, _, e, _ => by simp only [intsP] at e; cases e
  | .bl _ :: _, _, _, e, _ => by simp only [intsP] at e; cases e
  | .str _ :: _, _, _, e, _ => by simp only [intsP] at e; cases e
  | .tup _ :: _, _, _, e, _ => by simp only [intsP] at e; cases e
  | .lst _ :: _, _, _, e, _ => by simp only [intsP] at e; cases e
  | .ref _ :: _, _, _, e, _ => by simp only [intsP] at e; cases e
theorem Reps.all_bl : ∀ {l : List PV} {ns : List Bool} {vs : List V}, bls l = some ns → Reps K B μ H l vs → vs = ns.map V.bl
  | [], _, _, e, t => by simp only [bls, Option.some.injEq] at e; subst e; rw [t.nil_inv]; rfl
  | .bl i :: r, ns, vs, e, t => by
    simp only [bls] at e
    split at e
    · rename_i m hm
      cases e
      obtain ⟨v, w, rfl, h1, t⟩ := t.cons_inv
      rw [Rep.bl_iff.mp h1, Reps.all_bl hm t]
      rfl
    · cases e
  | .non :: _, _, _, e, _ => by simp only [bls] at e; cases e
  | .int _ :: _, _, _, e, _ => by simp only [bls] at e; cases e
  | .str _ :: _, _, _, e, _ => by simp only [bls] at e; cases e
  | .tup _ :: _, _, _, e, _ => by simp only [bls] at e; cases e
  | .lst _ :: _, _, _, e, _ => by simp only [bls] at e; cases e
  | .ref _ :: _, _, _, e, _ => by simp only [bls] at e; cases e
theorem strOk_append {s t : Str} (hs : PyData.strOk s = true) (ht : PyData.strOk t = true) : PyData.strOk (s ++ t) = true := by
  unfold PyData.strOk at *
  show ((s.cps ++ t.cps).all _) = true
  rw [Array.all_append, hs, ht]
  rfl
theorem strOk_mem {s : Str} : PyData.strOk s = true ↔ ∀ c ∈ s.cps.toList, c < 0x110000 := by
  unfold PyData.strOk
  rw [← Array.all_toList, List.all_eq_true]
  simp only [decide_eq_true_eq]
theorem strOk_cut {s : Str} (hs : PyData.strOk s = true) (lo hi : Option Int) : PyData.strOk (cutS s lo hi) = true := by
  rw [strOk_mem] at hs ⊢
  intro c hc
  refine hs c ?_
  unfold cutS at hc
  exact List.mem_of_mem_drop (List.mem_of_mem_take (by simpa using hc))
theorem strOk_one {s : Str} (hs : PyData.strOk s = true) {c : Nat} (hc : c ∈ s.cps.toList) : PyData.strOk ⟨#[c]⟩ = true := by
  rw [strOk_mem] at hs ⊢
  intro d hd
  have : d = c := by simpa using hd
  subst this
  exact hs d hc
mutual
theorem Rep.dp : ∀ {v : PV} {x : V}, noRef v = true → Rep K B μ H v x → Dp K H x (toD v)
  | .non, _, _, r => by rw [Rep.non_iff.mp r]; simp only [toD]; exact .non
  | .bl b, _, _, r => by rw [Rep.bl_iff.mp r]; simp only [toD]; exact .bl b
  | .int i, _, _, r => by rw [Rep.int_iff.mp r]; simp only [toD]; exact .int i
  | .str s, _, _, r => by rw [(Rep.str_iff.mp r).1]; simp only [toD]; exact .str s
  | .tup l, _, n, r => by
    obtain ⟨a, vs, rfl, hs, t⟩ := Rep.tup_iff.mp r
    simp only [toD]
    exact .tup hs.sq (Reps.dp (by simpa only [noRef] using n) t)
  | .lst l, _, n, r => by
    obtain ⟨a, vs, rfl, hs, t⟩ := Rep.lst_iff.mp r
    simp only [toD]
    exact .lst hs.sq (Reps.dp (by simpa only [noRef] using n) t)
  | .ref m, _, n, _ => by simp only [noRef] at n; cases n
theorem Reps.dp : ∀ {vs : List PV} {xs : List V}, noRefs vs = true → Reps K B μ H vs xs → DpAll K H xs (toDs vs)
  | [], _, _, r => by rw [r.nil_inv]; simp only [toDs]; exact .nil
  | v :: vs, _, n, r => by
    obtain ⟨x, xs, rfl, h1, t⟩ := r.cons_inv
    simp only [noRefs, Bool.and_eq_true] at n
    simp only [toDs]
    exact .cons (Rep.dp n.1 h1) (Reps.dp n.2 t)
end
mutual
theorem Rep.lay : ∀ {v : PV} {x : V}, Rep K B μ H v x → (toD v).canLay0 = true
  | .non, _, _ => by simp only [toD, PyData.canLay0]
  | .bl b, _, _ => by simp only [toD, PyData.canLay0]
  | .int i, _, _ => by simp only [toD, PyData.canLay0]
  | .str s, _, r => by simp only [toD, PyData.canLay0]; exact (Rep.str_iff.mp r).2.2
  | .tup l, _, r => by
    obtain ⟨a, vs, rfl, hs, t⟩ := Rep.tup_iff.mp r
    simp only [toD, PyData.canLay0]
    exact Reps.lay t
  | .lst l, _, r => by
    obtain ⟨a, vs, rfl, hs, t⟩ := Rep.lst_iff.mp r
    simp only [toD, PyData.canLay0]
    exact Reps.lay t
  | .ref m, _, _ => by simp only [toD, PyData.canLay0]
theorem Reps.lay : ∀ {vs : List PV} {xs : List V}, Reps K B μ H vs xs → PyData.canLayAll0 (toDs vs) = true
  | [], _, _ => by simp only [toDs, PyData.canLayAll0]
  | v :: vs, _, r => by
    obtain ⟨x, xs, rfl, h1, t⟩ := r.cons_inv
    simp only [toDs, PyData.canLayAll0, Bool.and_eq_true]
    exact ⟨Rep.lay h1, Reps.lay t⟩
end
end
mutual
theorem dep_toD : ∀ v : PV, (toD v).depth = dep v
  | .non => by simp only [toD, PyData.depth, dep]
  | .bl b => by simp only [toD, PyData.depth, dep]
  | .int i => by simp only [toD, PyData.depth, dep]
  | .str s => by simp only [toD, PyData.depth, dep]
  | .tup l => by simp only [toD, PyData.depth, dep, deps_toDs l]
  | .lst l => by simp only [toD, PyData.depth, dep, deps_toDs l]
  | .ref m => by simp only [toD, PyData.depth, dep]
theorem deps_toDs : ∀ vs : List PV, PyData.depthAll (toDs vs) = deps vs
  | [] => by simp only [toDs, PyData.depthAll, deps]
  | v :: vs => by simp only [toDs, PyData.depthAll, deps, dep_toD v, deps_toDs vs]
end
mutual
theorem eqv_toD : ∀ v w : PV, noRef v = true → noRef w = true → PyData.eqv (toD v) (toD w) = peq v w
  | .non, w, _, n => by
    cases w with
    | ref _ => simp only [noRef] at n; cases n
    | _ => simp only [toD, PyData.eqv, peq]
  | .bl b, w, _, n => by
    cases w with
    | ref _ => simp only [noRef] at n; cases n
    | _ => simp only [toD, PyData.eqv, peq]
  | .int i, w, _, n => by
    cases w with
    | ref _ => simp only [noRef] at n; cases n
    | _ => simp only [toD, PyData.eqv, peq]
  | .str s, w, _, n => by
    cases w with
    | ref _ => simp only [noRef] at n; cases n
    | _ => simp only [toD, PyData.eqv, peq]
  | .tup l, w, m, n => by
    cases w with
    | tup k => simp only [toD, PyData.eqv, peq]; exact eqvs_toDs l k (by simpa only [noRef] using m) (by simpa only [noRef] using n)
    | ref _ => simp only [noRef] at n; cases n
    | _ => simp only [toD, PyData.eqv, peq]
  | .lst l, w, m, n => by
    cases w with
    | lst k => simp only [toD, PyData.eqv, peq]; exact eqvs_toDs l k (by simpa only [noRef] using m) (by simpa only [noRef] using n)
    | ref _ => simp only [noRef] at n; cases n
    | _ => simp only [toD, PyData.eqv, peq]
  | .ref _, _, m, _ => by simp only [noRef] at m; cases m
theorem eqvs_toDs : ∀ vs ws : List PV, noRefs vs = true → noRefs ws = true → PyData.eqvAll (toDs vs) (toDs ws) = peqs vs ws
  | [], [], _, _ => by simp only [toDs, PyData.eqvAll, peqs]
  | [], _ :: _, _, _ => by simp only [toDs, PyData.eqvAll, peqs]
  | _ :: _, [], _, _ => by simp only [toDs, PyData.eqvAll, peqs]
  | v :: vs, w :: ws, m, n => by
    simp only [noRefs, Bool.and_eq_true] at m n
    simp only [toDs, PyData.eqvAll, peqs, eqv_toD v w m.1 n.1, eqvs_toDs vs ws m.2 n.2]
end
section
variable {K : PySem.W.Frag} [Wd K] {B μ : List Addr} {h : MH} {H : Hp}
/-- a cell read as data -/
theorem snap_dp (r : Rel K B μ h H) {v : PV} {x : V} (rp : Rep K B μ H v x) (n : noRef (snap h v) = true) : Dp K H x (toD (snap h v)) ∧ (toD (snap h v)).canLay0 = true := by
  cases v with
  | ref m =>
    cases hc : h[m]? with
    | none => simp only [snap, hc, noRef] at n; cases n
    | some c =>
      cases c with
      | dct _ => simp only [snap, hc, noRef] at n; cases n
      | fz _ => simp only [snap, hc, noRef] at n; cases n
      | fzN _ => simp only [snap, hc, noRef] at n; cases n
      | dcT _ => simp only [snap, hc, noRef] at n; cases n
      | obj _ _ => simp only [snap, hc, noRef] at n; cases n
      | dcN _ => simp only [snap, hc, noRef] at n; cases n
      | lst l =>
        obtain ⟨a, vs, ha, h1, h2⟩ := r.lst hc
        obtain ⟨b, rfl, hb⟩ := Rep.ref_iff.mp rp
        rw [ha] at hb; cases hb
        simp only [snap, hc, noRef] at n
        simp only [snap, hc, toD]
        exact ⟨.lst (.inl (.inl h1)) (Reps.dp n h2), by simp only [PyData.canLay0]; exact h2.lay⟩
  | _ => simp only [snap] at n ⊢; exact ⟨rp.dp n, rp.lay⟩
theorem snaps_dp (r : Rel K B μ h H) : ∀ {vs : List PV} {xs : List V}, Reps K B μ H vs xs → noRefs (vs.map (snap h)) = true → DpAll K H xs (toDs (vs.map (snap h))) ∧ PyData.canLayAll0 (toDs (vs.map (snap h))) = true
  | [], _, t, _ => by rw [t.nil_inv]; simp only [List.map_nil, toDs, PyData.canLayAll0]; exact ⟨.nil, trivial⟩
  | v :: vs, _, t, n => by
    obtain ⟨x, xs, rfl, h1, t⟩ := t.cons_inv
    simp only [List.map_cons, noRefs, Bool.and_eq_true] at n
    obtain ⟨d1, c1⟩ := snap_dp r h1 n.1
    obtain ⟨d2, c2⟩ := snaps_dp r t n.2
    simp only [List.map_cons, toDs, PyData.canLayAll0, Bool.and_eq_true]
    exact ⟨.cons d1 d2, c1, c2⟩
theorem snapD_dp (r : Rel K B μ h H) {v : PV} {x : V} (rp : Rep K B μ H v x) (n : noRef (snapD h v) = true) : Dp K H x (toD (snapD h v)) ∧ (toD (snapD h v)).canLay0 = true := by
  cases v with
  | ref m =>
    cases hc : h[m]? with
    | none => simp only [snapD, snap, hc, noRef] at n; cases n
    | some c =>
      cases c with
      | dct _ => simp only [snapD, snap, hc, noRef] at n; cases n
      | fz _ => simp only [snapD, snap, hc, noRef] at n; cases n
      | fzN _ => simp only [snapD, snap, hc, noRef] at n; cases n
      | dcT _ => simp only [snapD, snap, hc, noRef] at n; cases n
      | obj _ _ => simp only [snapD, snap, hc, noRef] at n; cases n
      | dcN _ => simp only [snapD, snap, hc, noRef] at n; cases n
      | lst l =>
        obtain ⟨a, vs, ha, h1, h2⟩ := r.lst hc
        obtain ⟨b, rfl, hb⟩ := Rep.ref_iff.mp rp
        rw [ha] at hb; cases hb
        have e : snapD h (.ref m) = .lst (l.map (snap h)) := by simp only [snapD, snap, hc]
        rw [e] at n ⊢
        simp only [noRef] at n
        obtain ⟨d, c⟩ := snaps_dp r h2 n
        simp only [toD]
        exact ⟨.lst (.inl (.inl h1)) d, by simp only [PyData.canLay0]; exact c⟩
  | lst l =>
    obtain ⟨a, vs, rfl, hs, t⟩ := Rep.lst_iff.mp rp
    have e : snapD h (.lst l) = .lst (l.map (snap h)) := by simp only [snapD, snap]
    rw [e] at n ⊢
    simp only [noRef] at n
    obtain ⟨d, c⟩ := snaps_dp r t n
    simp only [toD]
    exact ⟨.lst hs.sq d, by simp only [PyData.canLay0]; exact c⟩
  | _ => simp only [snapD, snap] at n ⊢; exact ⟨rp.dp n, rp.lay⟩
theorem Rep.flat {v : PV} {x : V} (f : flatP v = true) (rp : Rep K B μ H v x) : flatV x = true := by
  cases v with
  | non => rw [Rep.non_iff.mp rp]; rfl
  | bl b => rw [Rep.bl_iff.mp rp]; rfl
  | int b => rw [Rep.int_iff.mp rp]; rfl
  | str b => rw [(Rep.str_iff.mp rp).1]; rfl
  | _ => simp only [flatP] at f; cases f
theorem Reps.flat : ∀ {l : List PV} {vs : List V}, l.all flatP = true → Reps K B μ H l vs → vs.all flatV = true
  | [], _, _, t => by rw [t.nil_inv]; rfl
  | p :: l, _, f, t => by
    obtain ⟨v, w, rfl, h1, t⟩ := t.cons_inv
    rw [List.all_cons, Bool.and_eq_true] at f ⊢
    exact ⟨h1.flat f.1, Reps.flat f.2 t⟩
theorem eqV_flat {v w : PV} {x y : V} (f : flatP v = true) (g : flatP w = true) (r : Rep K B μ H v x) (t : Rep K B μ H w y) : eqV x y = peq v w := by
  cases v with
  | non =>
    rw [Rep.non_iff.mp r]
    cases w with
    | non => rw [Rep.non_iff.mp t]; simp only [peq]; rfl
    | bl b => rw [Rep.bl_iff.mp t]; simp only [peq]; rfl
    | int b => rw [Rep.int_iff.mp t]; simp only [peq]; rfl
    | str b => rw [(Rep.str_iff.mp t).1]; simp only [peq]; rfl
    | _ => simp only [flatP] at g; cases g
  | bl c =>
    rw [Rep.bl_iff.mp r]
    cases w with
    | non => rw [Rep.non_iff.mp t]; simp only [peq]; rfl
    | bl b => rw [Rep.bl_iff.mp t]; simp only [peq]; rfl
    | int b => rw [Rep.int_iff.mp t]; simp only [peq]; rfl
    | str b => rw [(Rep.str_iff.mp t).1]; simp only [peq]; rfl
    | _ => simp only [flatP] at g; cases g
  | int c =>
    rw [Rep.int_iff.mp r]
    cases w with
    | non => rw [Rep.non_iff.mp t]; simp only [peq]; rfl
    | bl b => rw [Rep.bl_iff.mp t]; simp only [peq]; rfl
    | int b => rw [Rep.int_iff.mp t]; simp only [peq]; rfl
    | str b => rw [(Rep.str_iff.mp t).1]; simp only [peq]; rfl
    | _ => simp only [flatP] at g; cases g
  | str c =>
    rw [(Rep.str_iff.mp r).1]
    cases w with
    | non => rw [Rep.non_iff.mp t]; simp only [peq]; rfl
    | bl b => rw [Rep.bl_iff.mp t]; simp only [peq]; rfl
    | int b => rw [Rep.int_iff.mp t]; simp only [peq]; rfl
    | str b => rw [(Rep.str_iff.mp t).1]; simp only [peq]; rfl
    | _ => simp only [flatP] at g; cases g
  | _ => simp only [flatP] at f; cases f
theorem inV_flat {w : PV} {y : V} (g : flatP w = true) (t : Rep K B μ H w y) : ∀ {l : List PV} {vs : List V}, l.all flatP = true → Reps K B μ H l vs → inV y vs = l.any fun z => peq z w
  | [], _, _, r => by rw [r.nil_inv]; rfl
  | p :: l, _, f, r => by
    obtain ⟨v, u, rfl, h1, r⟩ := r.cons_inv
    rw [List.all_cons, Bool.and_eq_true] at f
    have ih := inV_flat g t f.2 r
    unfold inV at ih ⊢
    rw [List.any_cons, List.any_cons, ih, eqV_flat f.1 g h1 t]
end

section
variable {X : Cx}
/-- a two-place operation that makes a plain value -/
def rB (K : PySem.W.Frag) [Wd K] (f : PV → PV → MH → R PV) : R2 := fun x y H Q => ∃ B μ h a b w, Rel K B μ h H ∧ Rep K B μ H a x ∧ Rep K B μ H b y ∧ f a b h = .ok w ∧
  ∀ z μ' H', Step μ H μ' H' → Rel K B μ' h H' → Rep K B μ' H' w z → Q z H'
theorem op_bin (op : Operator) : OpR X (binaryOp op) (rB X.K (binop op)) := by
  intro pins s σ H x y v u Q I rx ry hh
  obtain ⟨B, μ, h, a, b, w, rl, ra, rb, e, q⟩ := hh
  have qi : ∀ i : Int, w = .int i → Q (.int i) H := fun i e => by subst e; exact q _ μ H .refl rl .int
  unfold binop at e
  cases op with
  | Add =>
    simp only at e
    split at e
    · cases e
      rw [Rep.int_iff.mp ra] at rx
      rw [Rep.int_iff.mp rb] at ry
      exact op_add pins s σ H _ _ v u Q I rx ry ⟨_, _, rfl, rfl, qi _ rfl⟩
    · split at e
      · rename_i st tt hz
        cases e
        obtain ⟨e1, l1, k1⟩ := Rep.str_iff.mp ra
        obtain ⟨e2, l2, k2⟩ := Rep.str_iff.mp rb
        rw [e1] at rx
        rw [e2] at ry
        have hl : (st ++ tt : Str).length = st.length + tt.length := by
          show (st.cps ++ tt.cps).size = _
          rw [Array.size_append]; rfl
        exact op_add_str pins s σ H _ _ v u Q I rx ry ⟨_, _, rfl, rfl, Nat.le_trans hz big_le, q _ μ H .refl rl (Rep.str_iff.mpr ⟨rfl, by rw [hl]; exact hz, strOk_append k1 k2⟩)⟩
      · cases e
    · split at e
      · rename_i l m hz
        cases e
        obtain ⟨a1, vs, e1, s1, t1⟩ := Rep.tup_iff.mp ra
        obtain ⟨a2, ws, e2, s2, t2⟩ := Rep.tup_iff.mp rb
        rw [e1] at rx
        rw [e2] at ry
        rw [t1.length, t2.length] at hz
        refine op_catA pins s σ H _ _ v u Q I rx ry ⟨a1, a2, vs, ws, rfl, rfl, s1.sq, s2.sq, Nat.le_trans hz big_le, fun z => ?_, fun _ z => ?_, fun _ _ p hp => ?_⟩
        · subst z
          refine q _ μ H .refl rl (Rep.tup_iff.mpr ⟨a2, ws, rfl, s2, ?_⟩)
          exact t1.append t2
        · subst z
          refine q _ μ H .refl rl (Rep.tup_iff.mpr ⟨a1, vs, rfl, s1, ?_⟩)
          have := t1.append t2
          rwa [List.append_nil] at this
        · exact q _ μ _ (.new hp) (rl.new hp) (.newTup rl hp (t1.append t2))
      · cases e
    · split at e
      · rename_i l m hz
        cases e
        obtain ⟨a1, vs, e1, s1, t1⟩ := Rep.lst_iff.mp ra
        obtain ⟨a2, ws, e2, s2, t2⟩ := Rep.lst_iff.mp rb
        rw [e1] at rx
        rw [e2] at ry
        rw [t1.length, t2.length] at hz
        cases rx
        cases ry
        obtain ⟨its, r1, ⟨⟨c1, d1, w1, o1⟩, n, g1, ec1, ed1, ew1⟩, _⟩ := I.list s1.sq
        obtain ⟨its2, r2, ⟨⟨c2, d2, w2, o2⟩, n2, g2, ec2, ed2, ew2⟩, _⟩ := I.list s2.sq
        simp only at ec1 ed1 ew1 ec2 ed2 ew2
        subst ec1 ed1 ew1 ec2 ed2 ew2
        have hz' : vs.length + ws.length ≤ sizeLine := Nat.le_trans hz big_le
        refine concat_meets ⟨_, g1, rfl⟩ ⟨_, g2, rfl⟩ noFill_list_add seq_list_add PySem.F.slot_list_add PySem.F.entry_list_add (PySem.F.args_list_add_2 _ _) (list_addW a1 a2 its.toArray its2.toArray n n2 _ _ o1 o2 (by rw [List.size_toArray, List.size_toArray, ← r1.length, ← r2.length]; exact hz')) ⟨g1, g2, ?_⟩
        have ea : its.toArray ++ its2.toArray = (its ++ its2).toArray := by simp
        rw [ea]
        have hp : H s.heap.objs.size = none := I.fresh
        exact ⟨.ref _, _, I.lnew (t' := s.toks) (r1.append r2) (by rw [List.length_append]; exact hz'), rfl, q _ μ _ (.new hp) (rl.new hp) (.newLst rl hp (t1.append t2))⟩
      · cases e
    · cases e
  | Sub =>
    simp only at e
    split at e
    · cases e
      rw [Rep.int_iff.mp ra] at rx
      rw [Rep.int_iff.mp rb] at ry
      exact op_sub pins s σ H _ _ v u Q I rx ry ⟨_, _, rfl, rfl, qi _ rfl⟩
    · cases e
  | Mult =>
    simp only at e
    split at e
    · split at e
      · rename_i hc
        cases e
        rw [Rep.int_iff.mp ra] at rx
        rw [Rep.int_iff.mp rb] at ry
        exact op_mulX pins s σ H _ _ v u Q I rx ry ⟨_, _, rfl, rfl, mulx_ok Nat.lt_log2_self Nat.lt_log2_self (by omega), qi _ rfl⟩
      · cases e
    · cases e
  | FloorDiv =>
    simp only at e
    split at e
    · split at e
      · rename_i hc
        cases e
        rw [Rep.int_iff.mp ra] at rx
        rw [Rep.int_iff.mp rb] at ry
        exact op_fdivW pins s σ H _ _ v u Q I rx ry ⟨_, _, rfl, rfl, hc, qi _ rfl⟩
      · cases e
    · cases e
  | Mod =>
    simp only at e
    split at e
    · split at e
      · rename_i hc
        cases e
        rw [Rep.int_iff.mp ra] at rx
        rw [Rep.int_iff.mp rb] at ry
        exact op_mod pins s σ H _ _ v u Q I rx ry ⟨_, _, rfl, rfl, hc, qi _ rfl⟩
      · cases e
    · cases e
  | Pow =>
    simp only at e
    split at e
    · split at e
      · rename_i hc
        cases e
        rw [Rep.int_iff.mp ra] at rx
        rw [Rep.int_iff.mp rb] at ry
        exact op_pow pins s σ H _ _ v u Q I rx ry ⟨_, _, rfl, rfl, hc, qi _ rfl⟩
      · cases e
    · cases e
  | LShift =>
    simp only at e
    split at e
    · split at e
      · rename_i hc
        cases e
        rw [Rep.int_iff.mp ra] at rx
        rw [Rep.int_iff.mp rb] at ry
        exact op_shl pins s σ H _ _ v u Q I rx ry ⟨_, _, rfl, rfl, hc, qi _ rfl⟩
      · cases e
    · cases e
  | RShift =>
    simp only at e
    split at e
    · split at e
      · rename_i hc
        cases e
        rw [Rep.int_iff.mp ra] at rx
        rw [Rep.int_iff.mp rb] at ry
        exact op_shr pins s σ H _ _ v u Q I rx ry ⟨_, _, rfl, rfl, hc, qi _ rfl⟩
      · cases e
    · cases e
  | BitAnd =>
    simp only at e
    split at e
    · cases e
      rw [Rep.int_iff.mp ra] at rx
      rw [Rep.int_iff.mp rb] at ry
      exact op_and pins s σ H _ _ v u Q I rx ry ⟨_, _, rfl, rfl, qi _ rfl⟩
    · cases e
  | BitOr =>
    simp only at e
    split at e
    · cases e
      rw [Rep.int_iff.mp ra] at rx
      rw [Rep.int_iff.mp rb] at ry
      exact op_or pins s σ H _ _ v u Q I rx ry ⟨_, _, rfl, rfl, qi _ rfl⟩
    · cases e
  | _ => simp only at e; cases e
/-- a comparison -/
def rC (K : PySem.W.Frag) [Wd K] (op : CmpOp) : R2 := fun x y H Q => ∃ B μ h a b w, Rel K B μ h H ∧ Rep K B μ H a x ∧ Rep K B μ H b y ∧ cmpop op a b h = .ok w ∧ Q (.bl w) H
theorem eq_rule (hu : X.A.units + 64 < cLine) : OpR X (compareOp .Eq) (fun x y H Q => ∃ B μ h a b w, Rel X.K B μ h H ∧ Rep X.K B μ H a x ∧ Rep X.K B μ H b y ∧ eqop a b h = .ok w ∧ Q (.bl w) H) := by
  intro pins s σ H x y v u Q I rx ry hh
  obtain ⟨B, μ, h, a, b, w, rl, ra, rb, e, q⟩ := hh
  unfold eqop at e
  split at e
  · rename_i hc
    cases e
    obtain ⟨d1, c1⟩ := snap_dp rl ra hc.1
    obtain ⟨d2, c2⟩ := snap_dp rl rb hc.2.1
    obtain ⟨as, r1⟩ := Dp.reads I _ x v d1 rx
    obtain ⟨bs, r2⟩ := Dp.reads I _ y u d2 ry
    refine SeqAt.compareEq_reads r1 r2 c1 c2 ?_ ?_
    · rw [dep_toD, dep_toD]; omega
    · rw [eqv_toD _ _ hc.1 hc.2.1]; exact ⟨.bl _, H, I, rfl, q⟩
  · split at e
    · rename_i hc
      cases e
      obtain ⟨d1, c1⟩ := snapD_dp rl ra hc.1
      obtain ⟨d2, c2⟩ := snapD_dp rl rb hc.2.1
      obtain ⟨as, r1⟩ := Dp.reads I _ x v d1 rx
      obtain ⟨bs, r2⟩ := Dp.reads I _ y u d2 ry
      refine SeqAt.compareEq_reads r1 r2 c1 c2 ?_ ?_
      · rw [dep_toD, dep_toD]; omega
      · rw [eqv_toD _ _ hc.1 hc.2.1]; exact ⟨.bl _, H, I, rfl, q⟩
    · cases e
theorem ne_rule (hu : X.A.units + 64 < cLine) : OpR X (compareOp .NotEq) (fun x y H Q => ∃ B μ h a b w, Rel X.K B μ h H ∧ Rep X.K B μ H a x ∧ Rep X.K B μ H b y ∧ eqop a b h = .ok w ∧ Q (.bl (!w)) H) := by
  intro pins s σ H x y v u Q I rx ry hh
  obtain ⟨B, μ, h, a, b, w, rl, ra, rb, e, q⟩ := hh
  unfold eqop at e
  split at e
  · rename_i hc
    cases e
    obtain ⟨d1, c1⟩ := snap_dp rl ra hc.1
    obtain ⟨d2, c2⟩ := snap_dp rl rb hc.2.1
    obtain ⟨as, r1⟩ := Dp.reads I _ x v d1 rx
    obtain ⟨bs, r2⟩ := Dp.reads I _ y u d2 ry
    refine SeqAt.compareNe_reads r1 r2 c1 c2 ?_ ?_
    · rw [dep_toD, dep_toD]; omega
    · rw [eqv_toD _ _ hc.1 hc.2.1]; exact ⟨.bl _, H, I, rfl, q⟩
  · split at e
    · rename_i hc
      cases e
      obtain ⟨d1, c1⟩ := snapD_dp rl ra hc.1
      obtain ⟨d2, c2⟩ := snapD_dp rl rb hc.2.1
      obtain ⟨as, r1⟩ := Dp.reads I _ x v d1 rx
      obtain ⟨bs, r2⟩ := Dp.reads I _ y u d2 ry
      refine SeqAt.compareNe_reads r1 r2 c1 c2 ?_ ?_
      · rw [dep_toD, dep_toD]; omega
      · rw [eqv_toD _ _ hc.1 hc.2.1]; exact ⟨.bl _, H, I, rfl, q⟩
    · cases e
end
end Rg

namespace Rg
open PySem PySem.Spec PyProof.Rows L2
mutual
theorem nkV_nkP : ∀ {v : PV} {k : NestedKey}, nkP v = some k → nkV k = v
  | .non, k, e => by simp only [nkP, Option.some.injEq] at e; subst e; simp only [nkV]
  | .int i, k, e => by simp only [nkP, Option.some.injEq] at e; subst e; simp only [nkV]
  | .str i, k, e => by simp only [nkP, Option.some.injEq] at e; subst e; simp only [nkV]
  | .tup l, k, e => by
    simp only [nkP] at e
    split at e
    · rename_i ks hk
      cases e
      simp only [nkV, nkVs_nkPs hk]
    · cases e
  | .bl _, k, e => by simp only [nkP] at e; cases e
  | .lst _, k, e => by simp only [nkP] at e; cases e
  | .ref _, k, e => by simp only [nkP] at e; cases e
theorem nkVs_nkPs : ∀ {l : List PV} {ks : List NestedKey}, nkPs l = some ks → nkVs ks = l
  | [], ks, e => by simp only [nkPs, Option.some.injEq] at e; subst e; simp only [nkVs]
  | v :: r, ks, e => by
    simp only [nkPs] at e
    split at e
    · rename_i k l h1 h2
      cases e
      simp only [nkVs, nkV_nkP h1, nkVs_nkPs h2]
    · cases e
end
theorem nkey_ok {v : PV} {k : NestedKey} (e : nkey v = some k) : nkV k = v ∧ k.depth ≤ 8 ∧ ∃ l, v = .tup l := by
  unfold nkey at e
  split at e
  · rename_i l
    split at e
    · rename_i ks hk
      split at e
      · rename_i hd
        cases e
        exact ⟨by simp only [nkV, nkVs_nkPs hk], hd, l, rfl⟩
      · cases e
    · cases e
  · cases e
section
variable {X : Cx} {B μ : List Addr} {h : MH} {H : Hp} {pins : List (Addr × Obj)} {σ : L2.St} {s : Shared}
mutual
/-- a key in the heap -/
theorem nk_is (I : Inv X pins σ H s) : ∀ (k : NestedKey) {x : V} {u : Value}, Rep X.K B μ H (nkV k) x → RelV x u → NestedIs s.heap k u
  | .none, x, u, r, e => by
    simp only [nkV, Rep] at r
    subst r
    obtain rfl : u = .none := e
    exact .none
  | .num i, x, u, r, e => by
    simp only [nkV, Rep] at r
    subst r
    obtain ⟨t, rfl⟩ := e
    exact .int i t
  | .text i, x, u, r, e => by
    simp only [nkV, Rep] at r
    obtain ⟨rfl, _⟩ := r
    obtain ⟨t, rfl⟩ := e
    exact .text i t
  | .tup ks, x, u, r, e => by
    simp only [nkV, Rep] at r
    obtain ⟨a, vs, rfl, hs, hr⟩ := r
    obtain rfl : u = .ref a := e
    obtain ⟨its, rv, ⟨o, ho, hc, n, hd⟩, _⟩ := I.tuple hs.sq
    exact .tup ho hc hd (nk_all I ks hr rv)
theorem nk_all (I : Inv X pins σ H s) : ∀ (ks : List NestedKey) {xs : List V} {us : List Value}, Reps X.K B μ H (nkVs ks) xs → Vals xs us → NestedAll s.heap ks us
  | [], xs, us, r, e => by
    simp only [nkVs] at r
    rw [r.nil_inv] at e
    cases e
    exact .nil
  | k :: ks, xs, us, r, e => by
    simp only [nkVs] at r
    obtain ⟨v, w, rfl, r1, r2⟩ := r.cons_inv
    cases e with
    | cons e1 e2 => exact .cons (nk_is I k r1 e1) (nk_all I ks r2 e2)
end
theorem rawN_of (I : Inv X pins σ H s) {a : Addr} {xs : List (NestedKey × Addr × Value)} (e : H a = some (.ext (RawN X.K a xs))) : RawN X.K a xs s.heap := (show ObjOk X.prog X.w H s.heap a (.ext (RawN X.K a xs)) from I.hok a _ e).1
theorem dictN (I : Inv X pins σ H s) {a : Addr} {xs : List (NestedKey × Addr × Value)} (e : H a = some (.ext (RawN X.K a xs))) (nd : (xs.map (·.1)).Nodup) (hk : ∀ x ∈ xs, Rep X.K B μ H (nkV x.1) (.ref x.2.1) ∧ x.1.depth ≤ 8) :
    s.heap.DictOfH (nestedKind X.prog X.w) a xs := by
  obtain ⟨o, es, ep, h1, h2, h3, h4⟩ := rawN_of I e
  exact ⟨o, es, ep, h1, h2, h3, h4, fun x hx => ⟨nk_is I _ (hk x hx).1 rfl, (hk x hx).2⟩, nd⟩
theorem nk_key (I : Inv X pins σ H s) {q : PV} {x : V} {u : Value} {k : NestedKey} (r : Rep X.K B μ H q x) (e : nkey q = some k) (ru : RelV x u) : ∃ b, x = .ref b ∧ u = .ref b ∧ (nestedKind X.prog X.w).is s.heap k b := by
  obtain ⟨e1, e2, l, rfl⟩ := nkey_ok e
  obtain ⟨b, vs, rfl, _⟩ := Rep.tup_iff.mp r
  obtain rfl : u = .ref b := ru
  exact ⟨b, rfl, rfl, nk_is I k (x := .ref b) (by rw [e1]; exact r) (show RelV (.ref b) (.ref b) from rfl), e2⟩
/-- what an entry has -/
theorem n_at {K : PySem.W.Frag} [Wd K] {k : NestedKey} : ∀ {l : List (NestedKey × PV)} {xs : List (NestedKey × Addr × Value)} {vs : List V}, xs.map (·.1) = l.map (·.1) → Vals vs (xs.map (·.2.2)) → Reps K B μ H (l.map (·.2)) vs →
    (valP l k = none ∧ atKey xs k = none) ∨ ∃ p v q, valP l k = some p ∧ atKey xs k = some q ∧ RelV v q.2 ∧ Rep K B μ H p v
  | [], [], _, _, _, _ => .inl ⟨rfl, rfl⟩
  | [], _ :: _, _, e, _, _ => by simp at e
  | _ :: _, [], _, e, _, _ => by simp at e
  | (j, p) :: l, (j', a, u) :: xs, vs, e, rv, r => by
    simp only [List.map_cons, List.cons.injEq] at e
    obtain ⟨rfl, e⟩ := e
    obtain ⟨v, vs', rfl, r1, r2⟩ := r.cons_inv
    cases rv with
    | cons rv1 rv2 =>
      by_cases hj : j' = k
      · exact .inr ⟨p, v, (a, u), by simp [valP, List.find?_cons, hj], by simp [atKey, List.find?_cons, hj], rv1, r1⟩
      · have ih := n_at (k := k) e rv2 r2
        have e1 : valP ((j', p) :: l) k = valP l k := by simp [valP, List.find?_cons, hj]
        have e2 : atKey ((j', a, u) :: xs) k = atKey xs k := by simp [atKey, List.find?_cons, hj]
        rw [e1, e2]
        exact ih
theorem nview_ok {K : PySem.W.Frag} [Wd K] (r : Rel K B μ h H) {p : PV} {x : V} {l : List (NestedKey × PV)} (rp : Rep K B μ H p x) (e : nview p h = some l) : ∃ n a xs vs, p = .ref n ∧ x = .ref a ∧ h[n]? = some (.dcN l) ∧ μ[n]? = some a ∧ H a = some (.ext (RawN K a xs)) ∧ ((a == sysModules) = false ∧ xs.length ≤ sizeLine) ∧ (xs.map (·.1) = l.map (·.1) ∧ (l.map (·.1)).Nodup) ∧
      (∀ x ∈ xs, Rep K B μ H (nkV x.1) (.ref x.2.1) ∧ x.1.depth ≤ 8) ∧ Vals vs (xs.map (·.2.2)) ∧ Reps K B μ H (l.map (·.2)) vs := by
  cases p with
  | ref n =>
    simp only [nview] at e
    split at e
    · rename_i l' hl
      cases e
      obtain ⟨a, ex, ha⟩ := Rep.ref_iff.mp rp
      obtain ⟨b, xs, vs, hb, h1⟩ := r.dcN hl
      rw [ha] at hb; cases hb
      exact ⟨n, a, xs, vs, rfl, ex, hl, ha, h1⟩
    · cases e
  | _ => simp [nview] at e
theorem n_room {A : Around} (hu : A.units + 64 < cLine) : A.units + 8 < cLine ∧ A.in1.units + 8 < cLine := by
  constructor
  · omega
  · have : A.in1.units ≤ A.units + 1 := by first | exact Nat.le_refl _ | (show A.units + 1 ≤ A.units + 1; exact Nat.le_refl _)
    omega
/-- d[y] -/
theorem n_getItem {A : Around} {E : Value → Shared → Prop} (hu : A.units + 64 < cLine) (I : Inv X pins σ H s) {a : Addr} {xs : List (NestedKey × Addr × Value)} {k : NestedKey} {b : Addr} {q : Addr × Value} {v : V} {Q : Value → Shared → Prop}
    (dd : s.heap.DictOfH (nestedKind X.prog X.w) a xs) (kk : (nestedKind X.prog X.w).is s.heap k b) (hq : atKey xs k = some q) (rv : RelV v q.2) (h : ∀ w' s', Inv X pins σ H s' → RelV v w' → Q w' s') : wpAny (model X.prog X.w) A (getItem (.ref a) (.ref b)) Q E s := by
  exact wpAny_getItem_heap (n_room hu).2 kk dd hq (h _ _ (I.tok _) rv)
theorem n_in {A : Around} {E : Value → Shared → Prop} (hu : A.units + 64 < cLine) (I : Inv X pins σ H s) {a : Addr} {xs : List (NestedKey × Addr × Value)} {k : NestedKey} {b : Addr} {Q : Value → Shared → Prop}
    (hd : (a == sysModules) = false) (dd : s.heap.DictOfH (nestedKind X.prog X.w) a xs) (kk : (nestedKind X.prog X.w).is s.heap k b) (h : ∀ s', Inv X pins σ H s' → Q (.bool (atKey xs k).isSome) s') : wpAny (model X.prog X.w) A (compareOp .In (.ref b) (.ref a)) Q E s :=
  wpAny_in_heap (n_room hu).2 kk hd dd (h _ (I.tok _))
theorem n_notIn {A : Around} {E : Value → Shared → Prop} (hu : A.units + 64 < cLine) (I : Inv X pins σ H s) {a : Addr} {xs : List (NestedKey × Addr × Value)} {k : NestedKey} {b : Addr} {Q : Value → Shared → Prop}
    (hd : (a == sysModules) = false) (dd : s.heap.DictOfH (nestedKind X.prog X.w) a xs) (kk : (nestedKind X.prog X.w).is s.heap k b) (h : ∀ s', Inv X pins σ H s' → Q (.bool (!(atKey xs k).isSome)) s') : wpAny (model X.prog X.w) A (compareOp .NotIn (.ref b) (.ref a)) Q E s :=
  wpAny_notIn_heap (n_room hu).2 kk hd dd (h _ (I.tok _))
theorem n_get1 {A : Around} {E : Value → Shared → Prop} (hu : A.units + 64 < cLine) (I : Inv X pins σ H s) {a : Addr} {xs : List (NestedKey × Addr × Value)} {k : NestedKey} {b : Addr} {Q : Value → Shared → Prop}
    (hd : (a == sysModules) = false) (dd : s.heap.DictOfH (nestedKind X.prog X.w) a xs) (kk : (nestedKind X.prog X.w).is s.heap k b) (h : ∀ s', Inv X pins σ H s' → Q (((atKey xs k).map (·.2)).getD .none) s') : wpAny (model X.prog X.w) A (call (.builtin "dict.get") [.ref a, .ref b]) Q E s :=
  call_meetsIn PySem.F.slot_dict_get dd.typeIs PySem.F.entry_dict_get (PySem.F.args_dict_get_2 _ _) (meetsH_dict_get (nestedKind X.prog X.w) a b hd) ⟨(n_room hu).2, k, xs, kk, dd, h _ (I.tok _)⟩
theorem n_get2 {A : Around} {E : Value → Shared → Prop} (hu : A.units + 64 < cLine) (I : Inv X pins σ H s) {a : Addr} {xs : List (NestedKey × Addr × Value)} {k : NestedKey} {b : Addr} {r : Value} {Q : Value → Shared → Prop}
    (hd : (a == sysModules) = false) (dd : s.heap.DictOfH (nestedKind X.prog X.w) a xs) (kk : (nestedKind X.prog X.w).is s.heap k b) (h : ∀ s', Inv X pins σ H s' → Q (((atKey xs k).map (·.2)).getD r) s') : wpAny (model X.prog X.w) A (call (.builtin "dict.get") [.ref a, .ref b, r]) Q E s :=
  call_meetsIn PySem.F.slot_dict_get dd.typeIs PySem.F.entry_dict_get (PySem.F.args_dict_get_3 _ _ _) (meetsH_dict_get_default (nestedKind X.prog X.w) a b hd r) ⟨(n_room hu).2, k, xs, kk, dd, h _ (I.tok _)⟩
theorem n_len {l : List (NestedKey × PV)} {xs : List (NestedKey × Addr × Value)} (e : xs.map (·.1) = l.map (·.1)) : xs.length = l.length := by
  have := congrArg List.length e
  simpa using this
/-- d[y] = v -/
theorem n_setItem {A : Around} {E : Value → Shared → Prop} (hu : A.units + 64 < cLine) (I : Inv X pins σ H s) {a : Addr} {xs : List (NestedKey × Addr × Value)} {k : NestedKey} {b : Addr} {r : Value} {Q : Unit → Shared → Prop}
    (e : H a = some (.ext (RawN X.K a xs))) (hz : xs.length ≤ sizeLine) (dd : s.heap.DictOfH (nestedKind X.prog X.w) a xs) (kk : (nestedKind X.prog X.w).is s.heap k b)
    (h : ((storedH xs k b r).map (·.1)).Nodup → ∀ s', Inv X pins σ (upd H a (.ext (RawN X.K a (storedH xs k b r)))) s' → Q () s') : wpAny (model X.prog X.w) A (setItem (.ref a) (.ref b) r) Q E s := by
  refine wpAny_setItem_heap (hsz := hz) (n_room hu).2 kk dd fun h' dd' hs => ?_
  obtain ⟨q, es, ep, hq, h2, h3, h4, _, h5⟩ := dd'
  refine h h5 _ (d_write I (by rw [e]; exact True.intro) hs ⟨q, hq⟩ ⟨⟨q, es, ep, hq, h2, h3, h4⟩, ⟨q, hq⟩, fun h1 h2 => ?_⟩)
  rintro ⟨o, es, ep, e1, e2, e3, e4⟩ kp
  exact ⟨o, es, ep, kp _ e1, e2, e3, e4⟩
theorem n_empty (I : Inv X pins σ H s) : ObjOk X.prog X.w H (s.heap.push { cls := .type "dict", data := .dict #[] }) s.heap.objs.size (.ext (RawN X.K s.heap.objs.size [])) := by
  refine ⟨⟨_, #[], 0, Heap.get?_push_size _ rfl, ⟨rfl, rfl, rfl⟩, rfl, rfl⟩, ⟨_, Heap.get?_push_size _ rfl⟩, fun h1 h2 => ?_⟩
  rintro ⟨o, es, ep, e1, e2, e3, e4⟩ kp
  exact ⟨o, es, ep, kp _ e1, e2, e3, e4⟩
end
section
variable {K : PySem.W.Frag} [Wd K] {B μ : List Addr} {h : MH} {H : Hp}
theorem n_any {l : List (NestedKey × PV)} {xs : List (NestedKey × Addr × Value)} (k : NestedKey) (e : xs.map (·.1) = l.map (·.1)) : (atKey xs k).isSome = (l.any fun kv => decide (kv.1 = k)) := by
  have h1 : (l.any fun kv => decide (kv.1 = k)) = ((l.map (·.1)).any fun j => decide (j = k)) := by rw [List.any_map]; rfl
  have h2 : (atKey xs k).isSome = ((xs.map (·.1)).any fun j => decide (j = k)) := by
    unfold atKey
    rw [Option.isSome_map, Bool.eq_iff_iff, List.find?_isSome]
    simp
  rw [h1, h2, e]
theorem n_map {p : PV} {v : V} {u : Value} {k : NestedKey} (rp : Rep K B μ H p v) (ru : RelV v u) : ∀ {l : List (NestedKey × PV)} {xs : List (NestedKey × Addr × Value)} {vs : List V}, xs.map (·.1) = l.map (·.1) → Vals vs (xs.map (·.2.2)) → Reps K B μ H (l.map (·.2)) vs →
    ∃ vs', Vals vs' ((xs.map (putAt k u)).map (·.2.2)) ∧ Reps K B μ H ((l.map fun kv => if kv.1 = k then (kv.1, p) else kv).map (·.2)) vs'
  | [], [], vs, _, rv, r => ⟨vs, rv, r⟩
  | [], _ :: _, _, e, _, _ => by simp at e
  | _ :: _, [], _, e, _, _ => by simp at e
  | (j, p0) :: l, (j', a, u0) :: xs, vs, e, rv, r => by
    simp only [List.map_cons, List.cons.injEq] at e
    obtain ⟨rfl, e⟩ := e
    obtain ⟨v0, vs0, rfl, r1, r2⟩ := r.cons_inv
    cases rv with
    | cons rv1 rv2 =>
      obtain ⟨ws, w1, w2⟩ := n_map rp ru e rv2 r2
      simp only [List.map_cons, putAt]
      by_cases hj : j' = k
      · simp only [hj, if_true]
        exact ⟨v :: ws, .cons ru w1, .cons rp w2⟩
      · simp only [hj, if_false]
        exact ⟨v0 :: ws, .cons rv1 w1, .cons r1 w2⟩
theorem n_put {p : PV} {v : V} {u : Value} {k : NestedKey} {b : Addr} (rp : Rep K B μ H p v) (ru : RelV v u) {l : List (NestedKey × PV)} {xs : List (NestedKey × Addr × Value)} {vs : List V} (e : xs.map (·.1) = l.map (·.1)) (rv : Vals vs (xs.map (·.2.2))) (r : Reps K B μ H (l.map (·.2)) vs) :
    (storedH xs k b u).map (·.1) = (putP l k p).map (·.1) ∧ ∃ vs', Vals vs' ((storedH xs k b u).map (·.2.2)) ∧ Reps K B μ H ((putP l k p).map (·.2)) vs' := by
  unfold storedH putP
  rw [n_any k e]
  split
  · refine ⟨?_, n_map rp ru e rv r⟩
    rw [keys_map_putAt, dct_map_keys, e]
  · refine ⟨by rw [List.map_append, List.map_append, e]; rfl, vs ++ [v], ?_, ?_⟩
    · rw [List.map_append]; exact rv.append (.cons ru .nil)
    · rw [List.map_append]; exact r.append (.cons rp .nil)
theorem n_keys {k : NestedKey} {b : Addr} {u : Value} {xs : List (NestedKey × Addr × Value)} (P : NestedKey → Addr → Prop) (hx : ∀ x ∈ xs, P x.1 x.2.1) (hk : P k b) : ∀ x ∈ storedH xs k b u, P x.1 x.2.1 := by
  unfold storedH
  split
  · intro x hm
    obtain ⟨y, hy, rfl⟩ := List.mem_map.mp hm
    unfold putAt
    split
    · exact hx y hy
    · exact hx y hy
  · intro x hm
    rcases List.mem_append.mp hm with hm | hm
    · exact hx x hm
    · rw [List.mem_singleton] at hm
      subst hm
      exact hk
theorem Rel.newDcN (r : Rel K B μ h H) {p : Addr} (hp : H p = none) (hs : (p == sysModules) = false) : Rel K B (μ ++ [p]) (h ++ [.dcN []]) (upd H p (.ext (RawN K p []))) :=
  r.newCellC hp fun st e => ⟨[], [], e, ⟨hs, Nat.zero_le _⟩, ⟨rfl, List.nodup_nil⟩, fun x hx => by simp at hx, .nil, .nil⟩
theorem Rel.writeN (r : Rel K B μ h H) {n : Nat} {a : Addr} {l : List (NestedKey × PV)} {xs : List (NestedKey × Addr × Value)} {vs : List V} (ha : μ[n]? = some a) (hf : ∀ o u, H a ≠ some (.frz o u)) (h2 : (a == sysModules) = false ∧ xs.length ≤ sizeLine) (h3 : xs.map (·.1) = l.map (·.1) ∧ (l.map (·.1)).Nodup)
    (h4 : ∀ x ∈ xs, Rep K B μ H (nkV x.1) (.ref x.2.1) ∧ x.1.depth ≤ 8) (h5 : Vals vs (xs.map (·.2.2))) (h6 : Reps K B μ H (l.map (·.2)) vs) : Rel K B μ (h.set n (.dcN l)) (upd H a (.ext (RawN K a xs))) :=
  r.writeC ha hf fun st e => ⟨xs, vs, e, h2, h3, fun x hx => ⟨(h4 x hx).1.step st, (h4 x hx).2⟩, h5, h6.step st⟩
end
section
variable {X : Cx} {pos : Pos}
def tDNewN (X : Cx) : TE := fun _ H Q => ∀ p, H p = none → (p == sysModules) = false → Q (.ref p) (upd H p (.ext (RawN X.K p [])))
theorem pe_dnewN : PE X (.Dict [] [] pos) (tDNewN X) := ⟨fun pins s σ H Q I h =>
  wpAny_Dict_empty ⟨.ref s.heap.objs.size, _, I.laid (a := s.heap.objs.size) (t' := s.toks) (fun _ _ q => Heap.get?_push_of_some _ q) (Nat.le_refl _) (by
    obtain ⟨q1, q2, q3⟩ := n_empty I
    exact ⟨q1, q2, q3⟩), rfl, h _ (I.hok.fresh (Nat.le_refl _)) (beq_eq_false_iff_ne.mpr (Ne.symm (Nat.ne_of_lt I.big)))⟩⟩
end
end Rg

namespace Rg
open PySem PySem.Spec PyProof.Rows L2
theorem lexC_at {r : Int → Int → Bool} {z : Nat → Nat → Bool} (hz : ∀ a b k : Nat, z (a + k) (b + k) = z a b) (ns ms : List Int) : ∀ (k i : Nat), min ns.length ms.length = i + k →
    Ob.lexAt (fun j => decide (ns.getD j 0 = ms.getD j 0)) (fun j => r (ns.getD j 0) (ms.getD j 0)) (z ns.length ms.length) i k = lexC r z (ns.drop i) (ms.drop i)
  | 0, i, h => by
    rw [Ob.lexAt_zero]
    have h1 : i ≤ ns.length := by omega
    have h2 : i ≤ ms.length := by omega
    have e : z ns.length ms.length = z (ns.drop i).length (ms.drop i).length := by
      rw [List.length_drop, List.length_drop, ← hz (ns.length - i) (ms.length - i) i, Nat.sub_add_cancel h1, Nat.sub_add_cancel h2]
    rw [e]
    rcases Nat.lt_or_ge i ns.length with a | a
    · have b : ms.length ≤ i := by omega
      rw [List.drop_of_length_le b]
      cases ns.drop i <;> rfl
    · rw [List.drop_of_length_le a]
      cases ms.drop i <;> rfl
  | k + 1, i, h => by
    rw [Ob.lexAt_succ]
    have h1 : i < ns.length := by omega
    have h2 : i < ms.length := by omega
    rw [lexC_at hz ns ms k (i + 1) (by omega), List.drop_eq_getElem_cons h1, List.drop_eq_getElem_cons h2]
    have g1 : ns.getD i 0 = ns[i] := by simp [h1]
    have g2 : ms.getD i 0 = ms[i] := by simp [h2]
    rw [g1, g2]
    show _ = if ns[i] = ms[i] then _ else _
    by_cases q : ns[i] = ms[i]
    · rw [if_pos q, if_pos (by rw [decide_eq_true q])]
    · rw [if_neg q, if_neg (by rw [decide_eq_false q]; exact Bool.false_ne_true)]
section
variable {X : Cx}
/-- two tuples of ints -/
def rTI (K : PySem.W.Frag) [Wd K] (r : Int → Int → Bool) (z : Nat → Nat → Bool) : R2 := fun x y H Q => ∃ (a b : Addr) (ns ms : List Int), x = .ref a ∧ y = .ref b ∧ SqT K H a (ns.map V.int) ∧ SqT K H b (ms.map V.int) ∧ Q (.bl (lexC r z ns ms)) H
theorem tups_ints {op : CmpOp} {r : Int → Int → Bool} {z : Nat → Nat → Bool} (hco : ∀ v u, compareOp op v u = richCompare op v u) (hz : ∀ a b k : Nat, z (a + k) (b + k) = z a b)
    (hi : ∀ (A : Around) (s : Shared) (a b : Int) (t u : Tok), Ob.RcOp op A s (.int a t) (.int b u) (r a b))
    (ht : ∀ {A : Around} {s : Shared} {l b : Addr} {items items2 : Array Value} {e r : Nat → Bool} (hl : s.heap.IsTuple l items) (hb : s.heap.IsTuple b items2) (hu : A.units < cLine)
      (he : ∀ j (h1 : j < items.size) (h2 : j < items2.size), SeqAt.EqAt A.in1 s items[j] items2[j] (e j)) (hr : ∀ j (h1 : j < items.size) (h2 : j < items2.size), e j = false → Ob.RcOp op A.in1 s items[j] items2[j] (r j)),
      Ob.RcOp op A s (.ref l) (.ref b) (Ob.lexAt e r (z items.size items2.size) 0 (min items.size items2.size)))
    (hu : X.A.units < cLine) : OpR X (compareOp op) (rTI X.K r z) := by
  intro pins s σ H x y v u Q I rx ry h
  obtain ⟨a, b, ns, ms, rfl, rfl, ha, hb, q⟩ := h
  cases rx
  cases ry
  obtain ⟨its, r1, p1, _⟩ := I.tuple ha
  obtain ⟨its2, r2, p2, _⟩ := I.tuple hb
  have i1 : IntsAre its ns := Vals.ints r1
  have i2 : IntsAre its2 ms := Vals.ints r2
  have e1 : its.toArray.size = ns.length := by rw [List.size_toArray]; exact i1.length
  have e2 : its2.toArray.size = ms.length := by rw [List.size_toArray]; exact i2.length
  have at1 : ∀ j (h1 : j < its.toArray.size), ∃ t, its.toArray[j] = .int (ns.getD j 0) t := fun j h1 => PyProof.Rows.IntsAre.int_at i1 _ _ (by simp at h1; simp [h1])
  have at2 : ∀ j (h1 : j < its2.toArray.size), ∃ t, its2.toArray[j] = .int (ms.getD j 0) t := fun j h1 => PyProof.Rows.IntsAre.int_at i2 _ _ (by simp at h1; simp [h1])
  have R := ht (A := X.A) (s := s) (e := fun j => decide (ns.getD j 0 = ms.getD j 0)) (r := fun j => r (ns.getD j 0) (ms.getD j 0)) p1 p2 hu (fun j h1 h2 => by
    obtain ⟨t, et⟩ := at1 j h1
    obtain ⟨t', et'⟩ := at2 j h2
    rw [et, et']
    have z : (ns.getD j 0 == ms.getD j 0) = decide (ns.getD j 0 = ms.getD j 0) := by
      by_cases q : ns.getD j 0 = ms.getD j 0
      · rw [decide_eq_true q]; exact beq_iff_eq.mpr q
      · rw [decide_eq_false q]; exact beq_eq_false_iff_ne.mpr q
    rw [← z]
    exact SeqAt.EqAt.int_int _ _ _ _) (fun j h1 h2 _ => by
    obtain ⟨t, et⟩ := at1 j h1
    obtain ⟨t', et'⟩ := at2 j h2
    rw [et, et']
    exact hi _ _ _ _ _ _)
  rw [e1, e2, lexC_at hz ns ms _ 0 (by omega)] at R
  rw [hco]
  have z : wpAny (model X.prog X.w) X.A (richCompare op (.ref a) (.ref b)) (EP X pins σ Q) X.xe s := R X.prog X.w X.xe (EP X pins σ Q) ⟨.bl _, H, I, rfl, q⟩
  exact z
theorem op_ltI (hu : X.A.units < cLine) : OpR X (compareOp .Lt) (rTI X.K (fun a b => decide (a < b)) (fun a b => decide (a < b))) :=
  tups_ints (fun _ _ => rfl) (fun a b k => by by_cases q : a < b <;> simp [q]) (fun _ _ _ _ _ _ => Ob.RcOp.lt_int _ _ _ _) (fun hl hb hu he hr => Ob.RcOp.tuples_lt hl hb hu he hr) hu
theorem op_leI (hu : X.A.units < cLine) : OpR X (compareOp .LtE) (rTI X.K (fun a b => decide (a ≤ b)) (fun a b => decide (a ≤ b))) :=
  tups_ints (fun _ _ => rfl) (fun a b k => by by_cases q : a ≤ b <;> simp [q]) (fun _ _ _ _ _ _ => Ob.RcOp.le_int _ _ _ _) (fun hl hb hu he hr => Ob.RcOp.tuples_le hl hb hu he hr) hu
theorem op_gtI (hu : X.A.units < cLine) : OpR X (compareOp .Gt) (rTI X.K (fun a b => decide (b < a)) (fun a b => decide (b < a))) :=
  tups_ints (fun _ _ => rfl) (fun a b k => by by_cases q : b < a <;> simp [q]) (fun _ _ _ _ _ _ => Ob.RcOp.gt_int _ _ _ _) (fun hl hb hu he hr => Ob.RcOp.tuples_gt hl hb hu he hr) hu
theorem op_geI (hu : X.A.units < cLine) : OpR X (compareOp .GtE) (rTI X.K (fun a b => decide (b ≤ a)) (fun a b => decide (b ≤ a))) :=
  tups_ints (fun _ _ => rfl) (fun a b k => by by_cases q : b ≤ a <;> simp [q]) (fun _ _ _ _ _ _ => Ob.RcOp.ge_int _ _ _ _) (fun hl hb hu he hr => Ob.RcOp.tuples_ge hl hb hu he hr) hu
theorem is_rule : OpR X (compareOp .Is) (fun x y H Q => ∃ B μ h a b w, Rel X.K B μ h H ∧ Rep X.K B μ H a x ∧ Rep X.K B μ H b y ∧ isop a b = .ok w ∧ Q (.bl w) H) := by
  intro pins s σ H x y v u Q I rx ry hh
  obtain ⟨B, μ, h, a, b, w, rl, ra, rb, e, q⟩ := hh
  unfold isop at e
  split at e <;> first
    | (cases e; rw [Rep.non_iff.mp rb] at ry; rw [Rep.non_iff.mp ra] at rx; exact op_isN pins s σ H _ _ v u Q I rx ry ⟨rfl, by simpa using q⟩)
    | (cases e; rw [Rep.non_iff.mp rb] at ry; rw [Rep.bl_iff.mp ra] at rx; exact op_isN pins s σ H _ _ v u Q I rx ry ⟨rfl, by simpa using q⟩)
    | (cases e; rw [Rep.non_iff.mp rb] at ry; rw [Rep.int_iff.mp ra] at rx; exact op_isN pins s σ H _ _ v u Q I rx ry ⟨rfl, by simpa using q⟩)
    | (cases e; rw [Rep.non_iff.mp rb] at ry; rw [(Rep.str_iff.mp ra).1] at rx; exact op_isN pins s σ H _ _ v u Q I rx ry ⟨rfl, by simpa using q⟩)
    | (cases e; rw [Rep.non_iff.mp rb] at ry; obtain ⟨_, _, ex, _⟩ := Rep.tup_iff.mp ra; rw [ex] at rx; exact op_isN pins s σ H _ _ v u Q I rx ry ⟨rfl, by simpa using q⟩)
    | (cases e; rw [Rep.non_iff.mp rb] at ry; obtain ⟨_, _, ex, _⟩ := Rep.lst_iff.mp ra; rw [ex] at rx; exact op_isN pins s σ H _ _ v u Q I rx ry ⟨rfl, by simpa using q⟩)
    | (cases e; rw [Rep.non_iff.mp rb] at ry; obtain ⟨_, ex, _⟩ := Rep.ref_iff.mp ra; rw [ex] at rx; exact op_isN pins s σ H _ _ v u Q I rx ry ⟨rfl, by simpa using q⟩)
    | (cases e; rw [Rep.bl_iff.mp rb] at ry; rw [Rep.bl_iff.mp ra] at rx; exact op_is_bl pins s σ H _ _ v u Q I rx ry ⟨_, _, rfl, rfl, by rw [← Bool.beq_eq_decide_eq]; exact q⟩)
    | (cases e; done)
theorem isnot_rule : OpR X (compareOp .IsNot) (fun x y H Q => ∃ B μ h a b w, Rel X.K B μ h H ∧ Rep X.K B μ H a x ∧ Rep X.K B μ H b y ∧ isop a b = .ok w ∧ Q (.bl (!w)) H) := by
  intro pins s σ H x y v u Q I rx ry hh
  obtain ⟨B, μ, h, a, b, w, rl, ra, rb, e, q⟩ := hh
  unfold isop at e
  split at e <;> first
    | (cases e; rw [Rep.non_iff.mp rb] at ry; rw [Rep.non_iff.mp ra] at rx; exact op_notN pins s σ H _ _ v u Q I rx ry ⟨rfl, by simpa using q⟩)
    | (cases e; rw [Rep.non_iff.mp rb] at ry; rw [Rep.bl_iff.mp ra] at rx; exact op_notN pins s σ H _ _ v u Q I rx ry ⟨rfl, by simpa using q⟩)
    | (cases e; rw [Rep.non_iff.mp rb] at ry; rw [Rep.int_iff.mp ra] at rx; exact op_notN pins s σ H _ _ v u Q I rx ry ⟨rfl, by simpa using q⟩)
    | (cases e; rw [Rep.non_iff.mp rb] at ry; rw [(Rep.str_iff.mp ra).1] at rx; exact op_notN pins s σ H _ _ v u Q I rx ry ⟨rfl, by simpa using q⟩)
    | (cases e; rw [Rep.non_iff.mp rb] at ry; obtain ⟨_, _, ex, _⟩ := Rep.tup_iff.mp ra; rw [ex] at rx; exact op_notN pins s σ H _ _ v u Q I rx ry ⟨rfl, by simpa using q⟩)
    | (cases e; rw [Rep.non_iff.mp rb] at ry; obtain ⟨_, _, ex, _⟩ := Rep.lst_iff.mp ra; rw [ex] at rx; exact op_notN pins s σ H _ _ v u Q I rx ry ⟨rfl, by simpa using q⟩)
    | (cases e; rw [Rep.non_iff.mp rb] at ry; obtain ⟨_, ex, _⟩ := Rep.ref_iff.mp ra; rw [ex] at rx; exact op_notN pins s σ H _ _ v u Q I rx ry ⟨rfl, by simpa using q⟩)
    | (cases e; rw [Rep.bl_iff.mp rb] at ry; rw [Rep.bl_iff.mp ra] at rx; exact op_isnot_bl pins s σ H _ _ v u Q I rx ry ⟨_, _, rfl, rfl, by rw [← Bool.beq_eq_decide_eq]; exact q⟩)
    | (cases e; done)
theorem in_seqs {K : PySem.W.Frag} [Wd K] {B μ : List Addr} {h : MH} {H : Hp} {x y : V} {a b : PV} {w neg : Bool} {Q : VK} (rl : Rel K B μ h H) (ra : Rep K B μ H a x) (rb : Rep K B μ H b y) {l : List PV} (e : sview b h = some l)
    (hf : flatP a = true ∧ l.all flatP = true) (hw : (l.any fun z => peq z a) = w) (q : Q (.bl (if neg = true then !w else w)) H) : rIn K neg x y H Q := by
  obtain ⟨p, vs, rfl, hs, t⟩ := sview_ok rl rb e
  refine ⟨p, vs, rfl, hs, ra.flat hf.1, t.flat hf.2, ?_⟩
  rw [inV_flat hf.1 ra hf.2 t, hw]
  exact q
theorem any_toDs : ∀ {l : List PV} {x : PV}, noRefs l = true → noRef x = true → ((toDs l).any fun y => PyData.eqv y (toD x)) = l.any fun z => peq z x
  | [], _, _, _ => rfl
  | v :: l, x, n, m => by
    simp only [noRefs, Bool.and_eq_true] at n
    simp only [toDs, List.any_cons, eqv_toD v x n.1 m, any_toDs n.2 m]
theorem sview_dp {K : PySem.W.Frag} [Wd K] {B μ : List Addr} {h : MH} {H : Hp} {y : V} {b : PV} (rl : Rel K B μ h H) (rb : Rep K B μ H b y) {l : List PV} (e : sview b h = some l) (n : noRefs l = true) :
    (Dp K H y (.list (toDs l)) ∨ Dp K H y (.tuple (toDs l))) ∧ PyData.canLayAll0 (toDs l) = true := by
  cases b with
  | tup m =>
    simp only [sview, Option.some.injEq] at e
    subst e
    exact ⟨.inr (by have := Rep.dp (v := .tup m) (by simpa only [noRef] using n) rb; simpa only [toD] using this), by have := rb.lay; simpa only [toD, PyData.canLay0] using this⟩
  | lst m =>
    simp only [sview, Option.some.injEq] at e
    subst e
    exact ⟨.inl (by have := Rep.dp (v := .lst m) (by simpa only [noRef] using n) rb; simpa only [toD] using this), by have := rb.lay; simpa only [toD, PyData.canLay0] using this⟩
  | ref m =>
    have es : snap h (.ref m) = .lst l := by
      simp only [sview] at e
      split at e
      · rename_i l' hl
        cases e
        simp only [snap, hl]
      · cases e
    have z := snap_dp rl rb (by rw [es]; simpa only [noRef] using n)
    rw [es] at z
    exact ⟨.inl (by have := z.1; simpa only [toD] using this), by have := z.2; simpa only [toD, PyData.canLay0] using this⟩
  | _ => simp only [sview] at e; cases e
theorem in_deep (hu : X.A.units + 64 < cLine) {B μ : List Addr} {h : MH} {H : Hp} {x y : V} {a b : PV} {pins : List (Addr × Obj)} {σ : L2.St} {s : Shared} {v u : Value} {Q : VK} (I : Inv X pins σ H s) (rx : RelV x v) (ry : RelV y u) (rl : Rel X.K B μ h H) (ra : Rep X.K B μ H a x) (rb : Rep X.K B μ H b y) {l : List PV} (e : sview b h = some l)
    (hc : noRef a = true ∧ noRefs l = true ∧ dep a ≤ 60) (q : Q (.bl (l.any fun z => peq z a)) H) : wpAny (model X.prog X.w) X.A (compareOp .In v u) (EP X pins σ Q) X.xe s := by
  obtain ⟨d, cl⟩ := sview_dp rl rb e hc.2.1
  obtain ⟨as, r1⟩ := Dp.reads I _ x v (Rep.dp hc.1 ra) rx
  have hr : X.A.units + 1 + min (PyData.depthAll (toDs l)) (toD a).depth < cLine := by rw [dep_toD]; omega
  rcases d with d | d
  · obtain ⟨bs, r2⟩ := Dp.reads I _ y u d ry
    exact SeqAt.in_list_reads r2 r1 cl ra.lay hr ⟨.bl _, H, I, rfl, by rw [any_toDs hc.2.1 hc.1]; exact q⟩
  · obtain ⟨bs, r2⟩ := Dp.reads I _ y u d ry
    exact SeqAt.in_tuple_reads r2 r1 cl ra.lay hr ⟨.bl _, H, I, rfl, by rw [any_toDs hc.2.1 hc.1]; exact q⟩
theorem notin_deep (hu : X.A.units + 64 < cLine) {B μ : List Addr} {h : MH} {H : Hp} {x y : V} {a b : PV} {pins : List (Addr × Obj)} {σ : L2.St} {s : Shared} {v u : Value} {Q : VK} (I : Inv X pins σ H s) (rx : RelV x v) (ry : RelV y u) (rl : Rel X.K B μ h H) (ra : Rep X.K B μ H a x) (rb : Rep X.K B μ H b y) {l : List PV} (e : sview b h = some l)
    (hc : noRef a = true ∧ noRefs l = true ∧ dep a ≤ 60) (q : Q (.bl (!l.any fun z => peq z a)) H) : wpAny (model X.prog X.w) X.A (compareOp .NotIn v u) (EP X pins σ Q) X.xe s := by
  obtain ⟨d, cl⟩ := sview_dp rl rb e hc.2.1
  obtain ⟨as, r1⟩ := Dp.reads I _ x v (Rep.dp hc.1 ra) rx
  have hr : X.A.units + 1 + min (PyData.depthAll (toDs l)) (toD a).depth < cLine := by rw [dep_toD]; omega
  rcases d with d | d
  · obtain ⟨bs, r2⟩ := Dp.reads I _ y u d ry
    exact SeqAt.notIn_list_reads r2 r1 cl ra.lay hr ⟨.bl _, H, I, rfl, by rw [any_toDs hc.2.1 hc.1]; exact q⟩
  · obtain ⟨bs, r2⟩ := Dp.reads I _ y u d ry
    exact SeqAt.notIn_tuple_reads r2 r1 cl ra.lay hr ⟨.bl _, H, I, rfl, by rw [any_toDs hc.2.1 hc.1]; exact q⟩
theorem in_rule (hu : X.A.units + 64 < cLine) : OpR X (compareOp .In) (fun x y H Q => ∃ B μ h a b w, Rel X.K B μ h H ∧ Rep X.K B μ H a x ∧ Rep X.K B μ H b y ∧ inop a b h = .ok w ∧ Q (.bl w) H) := by
  intro pins s σ H x y v u Q I rx ry hh
  obtain ⟨B, μ, h, a, b, w, rl, ra, rb, e, q⟩ := hh
  unfold inop at e
  split at e
  · rename_i l hl
    split at e
    · rename_i k hk
      cases e
      obtain ⟨n, ad, kvs, _, rfl, _, _, hH, h2, h3⟩ := dview_ok rl rb hl
      obtain rfl : u = Value.ref ad := ry
      have kx := keyP_V ra hk
      subst kx
      refine d_in (by omega) I (o := L2.valV kvs k) (dget_r hH) rx fun s' I' => ⟨.bl (L2.valV kvs k).isSome, H, I', rfl, ?_⟩
      have : (L2.valV kvs k).isSome = (valP l k).isSome := by rcases dct_val k h2 h3 with ⟨z1, z2⟩ | ⟨p, v', z1, z2, _⟩ <;> rw [z1, z2] <;> rfl
      rw [this]; exact q
    · cases e
  split at e
  · rename_i l hl
    split at e
    · rename_i k hk
      cases e
      obtain ⟨n, ad, xs, vs, _, rfl, _, _, hH, h2, h3, h4, h5, h6⟩ := nview_ok rl rb hl
      obtain rfl : u = Value.ref ad := ry
      obtain ⟨b', ex, eu, kk⟩ := nk_key I ra hk rx
      subst ex eu
      refine n_in hu I h2.1 (dictN I hH (by rw [h3.1]; exact h3.2) h4) kk fun s' I' => ⟨.bl _, H, I', rfl, ?_⟩
      have : (atKey xs k).isSome = (valP l k).isSome := by rcases n_at (k := k) h3.1 h5 h6 with ⟨z1, z2⟩ | ⟨p, v', q', z1, z2, _⟩ <;> rw [z1, z2] <;> rfl
      rw [this]; exact q
    · cases e
  unfold inopS at e
  split at e
  · split at e
    · cases e
      rw [(Rep.str_iff.mp ra).1] at rx
      rw [(Rep.str_iff.mp rb).1] at ry
      exact op_in_str pins s σ H _ _ v u Q I rx ry ⟨_, _, rfl, rfl, q⟩
    · cases e
  all_goals first
    | (split at e
       · rename_i l hl
         split at e
         · rename_i hf
           cases e
           exact op_in_seq pins s σ H _ _ v u Q I rx ry (in_seqs rl ra rb hl hf rfl q)
         · split at e
           · rename_i hf
             cases e
             exact in_deep hu I rx ry rl ra rb hl hf q
           · cases e
       · cases e)
    | cases e
theorem notin_rule (hu : X.A.units + 64 < cLine) : OpR X (compareOp .NotIn) (fun x y H Q => ∃ B μ h a b w, Rel X.K B μ h H ∧ Rep X.K B μ H a x ∧ Rep X.K B μ H b y ∧ inop a b h = .ok w ∧ Q (.bl (!w)) H) := by
  intro pins s σ H x y v u Q I rx ry hh
  obtain ⟨B, μ, h, a, b, w, rl, ra, rb, e, q⟩ := hh
  unfold inop at e
  split at e
  · rename_i l hl
    split at e
    · rename_i k hk
      cases e
      obtain ⟨n, ad, kvs, _, rfl, _, _, hH, h2, h3⟩ := dview_ok rl rb hl
      obtain rfl : u = Value.ref ad := ry
      have kx := keyP_V ra hk
      subst kx
      refine d_notIn (by omega) I (o := L2.valV kvs k) (dget_r hH) rx fun s' I' => ⟨.bl (!(L2.valV kvs k).isSome), H, I', rfl, ?_⟩
      have : (L2.valV kvs k).isSome = (valP l k).isSome := by rcases dct_val k h2 h3 with ⟨z1, z2⟩ | ⟨p, v', z1, z2, _⟩ <;> rw [z1, z2] <;> rfl
      rw [this]; exact q
    · cases e
  split at e
  · rename_i l hl
    split at e
    · rename_i k hk
      cases e
      obtain ⟨n, ad, xs, vs, _, rfl, _, _, hH, h2, h3, h4, h5, h6⟩ := nview_ok rl rb hl
      obtain rfl : u = Value.ref ad := ry
      obtain ⟨b', ex, eu, kk⟩ := nk_key I ra hk rx
      subst ex eu
      refine n_notIn hu I h2.1 (dictN I hH (by rw [h3.1]; exact h3.2) h4) kk fun s' I' => ⟨.bl _, H, I', rfl, ?_⟩
      have : (atKey xs k).isSome = (valP l k).isSome := by rcases n_at (k := k) h3.1 h5 h6 with ⟨z1, z2⟩ | ⟨p, v', q', z1, z2, _⟩ <;> rw [z1, z2] <;> rfl
      rw [this]; exact q
    · cases e
  unfold inopS at e
  split at e
  · split at e
    · cases e
      rw [(Rep.str_iff.mp ra).1] at rx
      rw [(Rep.str_iff.mp rb).1] at ry
      exact op_notin_str pins s σ H _ _ v u Q I rx ry ⟨_, _, rfl, rfl, q⟩
    · cases e
  all_goals first
    | (split at e
       · rename_i l hl
         split at e
         · rename_i hf
           cases e
           exact op_notIn_seq pins s σ H _ _ v u Q I rx ry (in_seqs rl ra rb hl hf rfl q)
         · split at e
           · rename_i hf
             cases e
             exact notin_deep hu I rx ry rl ra rb hl hf q
           · cases e
       · cases e)
    | cases e
/-- an order: ints, tuples of ints -/
theorem ord_rule {op : CmpOp} {r : Int → Int → Bool} {z : Nat → Nat → Bool} (hi : OpR X (compareOp op) (rI0 fun i j => .bl (r i j))) (ht : OpR X (compareOp op) (rTI X.K r z)) :
    OpR X (compareOp op) (fun x y H Q => ∃ B μ h a b w, Rel X.K B μ h H ∧ Rep X.K B μ H a x ∧ Rep X.K B μ H b y ∧
      (match a, b with
        | .int i, .int j => .ok (r i j)
        | .tup l, .tup m => match intsP l, intsP m with | some l, some m => .ok (lexC r z l m) | _, _ => stk
        | _, _ => stk : R Bool) = .ok w ∧ Q (.bl w) H) := by
  intro pins s σ H x y v u Q I rx ry hh
  obtain ⟨B, μ, h, a, b, w, rl, ra, rb, e, q⟩ := hh
  split at e
  · cases e
    rw [Rep.int_iff.mp ra] at rx
    rw [Rep.int_iff.mp rb] at ry
    exact hi pins s σ H _ _ v u Q I rx ry ⟨_, _, rfl, rfl, q⟩
  · split at e
    · rename_i l m ns ms h1 h2
      cases e
      obtain ⟨a1, vs, e1, s1, t1⟩ := Rep.tup_iff.mp ra
      obtain ⟨a2, ws, e2, s2, t2⟩ := Rep.tup_iff.mp rb
      rw [e1] at rx
      rw [e2] at ry
      have z1 := Reps.all_int h1 t1
      have z2 := Reps.all_int h2 t2
      subst z1 z2
      exact ht pins s σ H _ _ v u Q I rx ry ⟨_, _, _, _, rfl, rfl, s1.sq, s2.sq, q⟩
    · cases e
  · cases e
end
end Rg

namespace Rg
open PySem PySem.Spec PyProof.Rows L2
theorem str_ext {x y : Str} (h : x.cps.toList = y.cps.toList) : x = y := by
  cases x with
  | mk a =>
    cases y with
    | mk b =>
      have : a = b := Array.toList_inj.mp h
      rw [this]
theorem keyLt_asym (x y : L2.Key) (h : keyLt x y = true) : keyLt y x = false := by
  cases x with
  | inl a =>
    cases y with
    | inl b => simp only [keyLt, decide_eq_true_eq, decide_eq_false_iff_not] at h ⊢; omega
    | inr b => rfl
  | inr a =>
    cases y with
    | inl b => cases h
    | inr b => simp only [keyLt, decide_eq_true_eq, decide_eq_false_iff_not] at h ⊢; exact List.not_lt.mpr (List.le_of_lt h)
theorem keyLt_tr (x y z : L2.Key) (h1 : keyLt y x = false) (h2 : keyLt z y = false) : keyLt z x = false := by
  cases x with
  | inl a =>
    cases y with
    | inl b =>
      cases z with
      | inl c => simp only [keyLt, decide_eq_false_iff_not] at h1 h2 ⊢; omega
      | inr c => rfl
    | inr b =>
      cases z with
      | inl c => cases h2
      | inr c => rfl
  | inr a =>
    cases y with
    | inl b => cases h1
    | inr b =>
      cases z with
      | inl c => cases h2
      | inr c =>
        simp only [keyLt, decide_eq_false_iff_not] at h1 h2 ⊢
        exact List.not_lt.mpr (List.le_trans (List.not_lt.mp h1) (List.not_lt.mp h2))
theorem keyLt_anti (x y : L2.Key) (h1 : keyLt x y = false) (h2 : keyLt y x = false) : x = y := by
  cases x with
  | inl a =>
    cases y with
    | inl b => simp only [keyLt, decide_eq_false_iff_not] at h1 h2; rw [show a = b by omega]
    | inr b => cases h1
  | inr a =>
    cases y with
    | inl b => cases h2
    | inr b =>
      simp only [keyLt, decide_eq_false_iff_not] at h1 h2
      rw [str_ext (List.le_antisymm (List.not_lt.mp h2) (List.not_lt.mp h1))]
theorem keyLe_trans (a b c : L2.Key) (h1 : keyLe a b = true) (h2 : keyLe b c = true) : keyLe a c = true := by
  simp only [keyLe, Bool.not_eq_true'] at h1 h2 ⊢
  exact keyLt_tr _ _ _ h1 h2
theorem keyLe_total (a b : L2.Key) : (keyLe a b || keyLe b a) = true := by
  simp only [keyLe]
  cases h : keyLt b a with
  | false => rfl
  | true => rw [keyLt_asym _ _ h]; rfl
theorem keyLt_irr (a : L2.Key) : keyLt a a = false := by
  cases h : keyLt a a with
  | false => rfl
  | true => have := keyLt_asym _ _ h; rw [h] at this; cases this
/-- there is one order of given keys -/
theorem keys_uniq {l m : List L2.Key} (h : l.Perm m) (s : l.Pairwise fun a b => keyLe a b = true) : l = m.mergeSort keyLe := by
  refine List.Perm.eq_of_pairwise (le := fun a b => keyLe a b = true) (fun a b _ _ h1 h2 => ?_) s (List.pairwise_mergeSort keyLe_trans keyLe_total _) (h.trans (List.mergeSort_perm _ _).symm)
  simp only [keyLe, Bool.not_eq_true'] at h1 h2
  exact keyLt_anti _ _ h2 h1
theorem pairs_uniq {l m : List (L2.Key × PV)} (h : l.Perm m) (s : l.Pairwise fun a b => keyLe a.1 b.1 = true) (nd : (m.map (·.1)).Nodup) : l = m.mergeSort fun a b => keyLe a.1 b.1 := by
  have inj : ∀ (m : List (L2.Key × PV)), (m.map (·.1)).Nodup → ∀ a ∈ m, ∀ b ∈ m, a.1 = b.1 → a = b := by
    intro m
    induction m with
    | nil => intro _ a ha; simp at ha
    | cons x m ih =>
      intro nd a ha b hb e
      rw [List.map_cons, List.nodup_cons] at nd
      rcases List.mem_cons.mp ha with ea | ha
      · rcases List.mem_cons.mp hb with eb | hb
        · rw [ea, eb]
        · exact absurd (List.mem_map.mpr ⟨b, hb, by rw [← e, ea]⟩) nd.1
      · rcases List.mem_cons.mp hb with eb | hb
        · exact absurd (List.mem_map.mpr ⟨a, ha, by rw [e, eb]⟩) nd.1
        · exact ih nd.2 a ha b hb e
  refine List.Perm.eq_of_pairwise (le := fun a b => keyLe a.1 b.1 = true) (fun a b ha hb h1 h2 => ?_) s (List.pairwise_mergeSort (le := fun a b : L2.Key × PV => keyLe a.1 b.1) (fun a b c => keyLe_trans a.1 b.1 c.1) (fun a b => keyLe_total a.1 b.1) m) (h.trans (List.mergeSort_perm _ _).symm)
  simp only [keyLe, Bool.not_eq_true'] at h1 h2
  exact inj m nd a (h.mem_iff.mp ha) b ((List.mergeSort_perm _ _).mem_iff.mp hb) (keyLt_anti _ _ h2 h1)
/-- what the library says of sorted texts -/
theorem rising_pair : ∀ {l : List Str} {p : Str}, risingS p l = true → (p :: l).Pairwise fun x y => keyLe (.inr x) (.inr y) = true
  | [], p, _ => List.pairwise_singleton _ _
  | x :: r, p, h => by
    simp only [risingS, Bool.and_eq_true, Bool.not_eq_true'] at h
    have ih := rising_pair h.2
    have hpx : keyLe (.inr p) (.inr x) = true := by
      simp only [keyLe, keyLt]
      rw [lt_meets, h.1]
      rfl
    refine List.pairwise_cons.mpr ⟨fun y hy => ?_, ih⟩
    rcases List.mem_cons.mp hy with rfl | hy
    · exact hpx
    · exact keyLe_trans _ _ _ hpx ((List.pairwise_cons.mp ih).1 y hy)
theorem sortedS_pair {l : List Str} (h : sortedS l = true) : l.Pairwise fun x y => keyLe (.inr x) (.inr y) = true := by
  cases l with
  | nil => exact List.Pairwise.nil
  | cons x r => exact rising_pair h

/-- v: a tuple whose first item is the key k -/
def KTup (h : Heap) (v : Value) (k : L2.Key) : Prop := ∃ (a : Addr) (o : Obj) (xs : Array Value) (n : Nat) (f : Value), v = .ref a ∧ h.get? a = some o ∧ o.cls = .type "tuple" ∧ o.data = .seq xs n ∧ xs[0]? = some f ∧ RelV (kV k) f
theorem KTup.keeps {h h' : Heap} {v : Value} {k : L2.Key} (t : KTup h v k) (kp : ∀ b o, h.get? b = some o → o.cls = .type "tuple" → h'.get? b = some o) : KTup h' v k := by
  obtain ⟨a, o, xs, n, f, e, ho, hc, hd, hf, r⟩ := t
  exact ⟨a, o, xs, n, f, e, kp _ _ ho hc, hc, hd, hf, r⟩
section
variable {prog : Program} {w : World} {A : Around} {E : Value → Shared → Prop} {s : Shared}
theorem katLex_same {b fin : Bool} {Q : Bool → Shared → Prop} (q : Q fin s) : ∀ (l : List Value) (i : Nat), PySem.W.KatLex prog w A b fin Q (l.zip l) i s
  | [], i => PySem.W.kat_nil q
  | v :: l, i => PySem.W.kat_cons (SeqAt.EqAt.same v prog w _ _ (PySem.W.kat_go (fun _ => PySem.W.kat_yes (katLex_same q l (i + 1))) (fun z => by cases z)))
theorem zip_cons0 {xs ys : Array Value} {f g : Value} (hx : xs[0]? = some f) (hy : ys[0]? = some g) : ∃ r, xs.toList.zip ys.toList = (f, g) :: r := by
  have e1 : xs.toList[0]? = some f := by rw [Array.getElem?_toList]; exact hx
  have e2 : ys.toList[0]? = some g := by rw [Array.getElem?_toList]; exact hy
  cases h1 : xs.toList with
  | nil => rw [h1] at e1; cases e1
  | cons a r =>
    cases h2 : ys.toList with
    | nil => rw [h2] at e2; cases e2
    | cons c r' =>
      rw [h1] at e1; rw [h2] at e2
      cases e1; cases e2
      exact ⟨r.zip r', rfl⟩
theorem ktup_cmp {vs : List Value} {k : Value → L2.Key} {c : Bool} (hk : ∀ v ∈ vs, KTup s.heap v (k v)) (hc : ∀ v ∈ vs, (k v).isLeft = c) (hi : ∀ v ∈ vs, ∀ u ∈ vs, k v = k u → v = u) :
    SrtO.Cmp prog w A s (tuples' true) (fun p => p.1 ∈ vs) (SrtO.lt2 fun v u => keyLt (k v) (k u)) := by
  intro p q hm hm'
  obtain ⟨a, o, xs, n, f, e, ho, hcl, hd, hf, rf⟩ := hk _ hm
  obtain ⟨a', o', xs', n', f', e', ho', hcl', hd', hf', rf'⟩ := hk _ hm'
  by_cases ek : k p.1 = k q.1
  · have ev := hi _ hm _ hm' ek
    show wpAny (model prog w) A (keyLt' (tuples' true) p.1 q.1) (fun r s' => s' = s ∧ r = keyLt (k p.1) (k q.1)) (fun _ _ => False) s
    rw [← ek, keyLt_irr, ← ev, e]
    refine PySem.W.kat_lt ho hd ho hd (katLex_same ⟨rfl, ?_⟩ _ _)
    simp
  · show wpAny (model prog w) A (keyLt' (tuples' true) p.1 q.1) (fun r s' => s' = s ∧ r = keyLt (k p.1) (k q.1)) (fun _ _ => False) s
    have c1 := hc _ hm
    have c2 := hc _ hm'
    generalize k p.1 = kp at *
    generalize k q.1 = kq at *
    rw [e, e']
    refine PySem.W.kat_lt ho hd ho' hd' ?_
    obtain ⟨r, er⟩ := zip_cons0 hf hf'
    rw [er]
    cases kp with
    | inl x =>
      cases kq with
      | inl y =>
        obtain ⟨t, rfl⟩ := rf
        obtain ⟨t', rfl⟩ := rf'
        refine PySem.W.kat_cons (SeqAt.EqAt.int_int x t y t' prog w _ _ ?_)
        refine PySem.W.kat_go (fun e1 => ?_) (fun e1 => ?_)
        · exact absurd (by rw [show x = y by simpa using e1]) ek
        · exact PySem.W.kat_no (oneLt_int ⟨rfl, rfl⟩)
      | inr y => rw [← c2] at c1; cases c1
    | inr x =>
      cases kq with
      | inl y => rw [← c2] at c1; cases c1
      | inr y =>
        obtain ⟨t, rfl⟩ := rf
        obtain ⟨t', rfl⟩ := rf'
        refine PySem.W.kat_cons (SeqAt.EqAt.str_str x t y t' prog w _ _ ?_)
        refine PySem.W.kat_go (fun e1 => ?_) (fun e1 => ?_)
        · exact absurd (by rw [show x = y by simpa using e1]) ek
        · exact PySem.W.kat_no (oneLt_str ⟨rfl, rfl⟩)
theorem ktup_firsts {h : Heap} {k : Value → L2.Key} : ∀ {vs : List Value}, (∀ v ∈ vs, KTup h v (k v)) → ∃ fs : List Value, PySem.W.KatTups h vs fs ∧ fs.length = vs.length ∧ ∀ f ∈ fs, ∃ v ∈ vs, RelV (kV (k v)) f
  | [], _ => ⟨[], PySem.W.KatTups.nil, rfl, fun _ hm => by simp at hm⟩
  | v :: vs, hp => by
    obtain ⟨fs, h1, h2, h3⟩ := ktup_firsts (vs := vs) fun v' hm => hp v' (List.mem_cons_of_mem _ hm)
    obtain ⟨a, o, xs, n, f, e, ho, hc, hd, hf, r⟩ := hp v (List.mem_cons_self ..)
    subst e
    refine ⟨f :: fs, PySem.W.KatTups.cons ho hc hd hf h1, by rw [List.length_cons, List.length_cons, h2], fun g hm => ?_⟩
    rcases List.mem_cons.mp hm with rfl | hm
    · exact ⟨_, List.mem_cons_self, r⟩
    · obtain ⟨u, hu, ru⟩ := h3 g hm
      exact ⟨u, List.mem_cons_of_mem _ hu, ru⟩
theorem ktup_sortable {a : Addr} {vs : List Value} {k : Value → L2.Key} {c : Bool} (h0 : 0 < vs.length) (hk : ∀ v ∈ vs, KTup s.heap v (k v)) (hc : ∀ v ∈ vs, (k v).isLeft = c) (hi : ∀ v ∈ vs, ∀ u ∈ vs, k v = k u → v = u)
    (ha : ∀ o, s.heap.get? a = some o → o.cls ≠ .type "tuple") : SrtO.SortableO prog w A s a vs fun v u => keyLt (k v) (k u) := by
  intro h' keep
  have hp' : ∀ v ∈ vs, KTup h' v (k v) := fun v hm => (hk v hm).keeps fun b o e cc => keep b o (fun z => by subst z; exact ha o e cc) e
  obtain ⟨fs, h1, h2, h3⟩ := ktup_firsts hp'
  refine ⟨tuples' true, fun Q E hq => ?_, ktup_cmp hp' hc hi⟩
  cases c with
  | true =>
    refine PySem.W.kat_kind (T := .type "int") h1 (by omega) (fun f hm => ?_) (by rfl) ?_
    · obtain ⟨u, hu, ru⟩ := h3 f hm
      have := hc u hu
      cases hku : k u with
      | inl x => rw [hku] at ru; obtain ⟨t, rfl⟩ := ru; exact PySem.W.Looks.now
      | inr x => rw [hku] at this; cases this
    · have e : (Value.type "int" != Value.type "tuple") = true := by first | decide +kernel | rfl | decide
      rw [e]; exact hq
  | false =>
    refine PySem.W.kat_kind (T := .type "str") h1 (by omega) (fun f hm => ?_) (by rfl) ?_
    · obtain ⟨u, hu, ru⟩ := h3 f hm
      have := hc u hu
      cases hku : k u with
      | inl x => rw [hku] at this; cases this
      | inr x => rw [hku] at ru; obtain ⟨t, rfl⟩ := ru; exact PySem.W.Looks.now
    · have e : (Value.type "str" != Value.type "tuple") = true := by first | decide +kernel | rfl | decide
      rw [e]; exact hq
theorem sorted_ktup {l : Addr} {vs : List Value} {k : Value → L2.Key} {c : Bool} {Q : Value → Shared → Prop} (hl : s.heap.IsList l vs.toArray) (hz : vs.length ≤ sizeLine) (hk : ∀ v ∈ vs, KTup s.heap v (k v)) (hc : ∀ v ∈ vs, (k v).isLeft = c) (hi : ∀ v ∈ vs, ∀ u ∈ vs, k v = k u → v = u)
    (h : ∀ (h' : Heap) (d : Addr) (out : List Value), out.Pairwise (fun v u => keyLt (k u) (k v) = false) → out.Perm vs → (∀ b o, s.heap.get? b = some o → h'.get? b = some o) → s.heap.objs.size ≤ d → (∃ n, h'.get? d = some (seqObj "list" out.toArray n)) → Q (.ref d) { s with heap := h' }) :
    wpAny (model prog w) A (call (.builtin "sorted") [.ref l]) Q E s := by
  refine SrtO.sorted_ord (ltv := fun v u => keyLt (k v) (k u)) ⟨fun x y => keyLt_asym _ _, fun x y z => keyLt_tr _ _ _⟩ hl hz (fun h2 h₁ a ha kk => ?_) fun out hs hb => ?_
  · refine ktup_sortable (s := { s with heap := h₁ }) (c := c) (by omega) (fun v hm => (hk v hm).keeps fun b o e _ => (kk b o e).2) hc hi fun o e => ?_
    have e' : some o = some (seqObj "list" vs.toArray 0) := e.symm.trans ha
    cases e'
    intro cc
    exact absurd (Value.type.inj cc) (by decide)
  · exact h _ _ out hs hb.perm (fun b o e => sortedAll_old e) (Nat.le_succ _) (sortedAll_at s.heap vs out.toArray)
end

section
variable {X : Cx}
def rSortK (K : PySem.W.Frag) [Wd K] : List V → Hp → VK → Prop := fun vs H Q => ∃ (a : Addr) (xs : List V) (k : V → L2.Key) (c : Bool), vs = [V.ref a] ∧ SqL K H a xs ∧ (∀ x ∈ xs, ∃ t zs, x = V.ref t ∧ SqT K H t (kV (k x) :: zs)) ∧ (∀ x ∈ xs, (k x).isLeft = c) ∧
  (∀ x ∈ xs, ∀ y ∈ xs, k x = k y → x = y) ∧ ∀ ys p, ys.Perm xs → ys.Pairwise (fun x y => keyLt (k y) (k x) = false) → H p = none → Q (.ref p) (upd H p (.lst ys))
theorem cr_sortK : CallR X (.builtin "sorted") (rSortK X.K) := by
  intro pins s σ H vs us Q I r h
  obtain ⟨a, xs, k, c, rfl, hs, hx, hc, hi, q⟩ := h
  obtain ⟨its, rv, hl, hz⟩ := I.list hs
  obtain ⟨u, rfl, ru⟩ := vals1 r
  obtain rfl : u = Value.ref a := ru
  obtain ⟨e1, e2⟩ := refs_back rv fun x m => by
    obtain ⟨t, zs, e, _⟩ := hx x m
    exact ⟨t, e⟩
  have bk : ∀ v ∈ its, backV v ∈ xs := fun v hv => by rw [e1]; exact List.mem_map.mpr ⟨_, hv, rfl⟩
  refine sorted_ktup (k := fun u => k (backV u)) (c := c) hl.isList (by rw [← rv.length]; exact hz) (fun v hv => ?_) (fun v hv => hc _ (bk v hv)) (fun v hv u hu e => ?_) fun h' d out h1 h2 kp hd hn => ?_
  · obtain ⟨t, rfl⟩ := e2 v hv
    obtain ⟨t', zs, e, ht⟩ := hx _ (bk _ hv)
    cases e
    obtain ⟨its2, r2, ⟨o, ho, hcl, n, hdt⟩, _⟩ := I.tuple ht
    cases r2 with
    | cons rf rt => exact ⟨t, o, _, n, _, rfl, ho, hcl, hdt, by simp, rf⟩
  · have := hi _ (bk v hv) _ (bk u hu) e
    obtain ⟨t, rfl⟩ := e2 v hv
    obtain ⟨t', rfl⟩ := e2 u hu
    cases this
    rfl
  · have h3 : ∀ u ∈ out, ∃ a, u = Value.ref a := fun u hu => e2 u (h2.mem_iff.mp hu)
    obtain ⟨n, hn⟩ := hn
    have hb : (out.map backV).Perm xs := by rw [e1]; exact h2.map backV
    refine ⟨.ref d, upd H d (.lst (out.map backV)), I.laid (t' := s.toks) kp hd ⟨?_, out, n, vals_back h3, hn⟩, rfl, q _ d hb (List.pairwise_map.mpr h1) (I.hok.fresh hd)⟩
    rw [hb.length_eq]
    exact hz
end
section
variable {K : PySem.W.Frag} [Wd K] {B μ : List Addr} {h : MH} {H : Hp}
theorem keyV_rep {p : PV} {k : L2.Key} (e : keyP p = some k) : keyV k = p := by
  cases p with
  | int i => simp only [keyP, Option.some.injEq] at e; subst e; rfl
  | str s => simp only [keyP, Option.some.injEq] at e; subst e; rfl
  | _ => simp [keyP] at e
theorem keysP_map : ∀ {l : List PV} {ks : List L2.Key}, keysP l = some ks → l = ks.map keyV
  | [], ks, e => by simp only [keysP, Option.some.injEq] at e; subst e; rfl
  | v :: r, ks, e => by
    simp only [keysP] at e
    split at e
    · rename_i k l h1 h2
      cases e
      rw [List.map_cons, keyV_rep h1, ← keysP_map h2]
    · cases e
/-- keys as they stand -/
theorem reps_keys : ∀ {ks : List L2.Key} {xs : List V}, Reps K B μ H (ks.map keyV) xs → xs = ks.map kV
  | [], xs, t => t.nil_inv
  | k :: ks, xs, t => by
    obtain ⟨v, r, rfl, h1, t⟩ := t.cons_inv
    rw [List.map_cons, ← reps_keys t]
    congr 1
    cases k with
    | inl i => exact Rep.int_iff.mp h1
    | inr s => exact (Rep.str_iff.mp h1).1
/-- the pairs key, thing, and what stands for them -/
inductive KRel (K : PySem.W.Frag) [Wd K] (B μ : List Addr) (H : Hp) (k : V → L2.Key) : List (L2.Key × PV) → List V → Prop where
  | nil : KRel K B μ H k [] []
  | cons {p : L2.Key × PV} {x : V} {l : List (L2.Key × PV)} {xs : List V} (h : Rep K B μ H p.2 x) (e : k x = p.1) (t : KRel K B μ H k l xs) : KRel K B μ H k (p :: l) (x :: xs)
theorem KRel.reps {k : V → L2.Key} {l : List (L2.Key × PV)} {xs : List V} (r : KRel K B μ H k l xs) : Reps K B μ H (l.map (·.2)) xs := by
  induction r with
  | nil => exact .nil
  | cons h _ _ ih => exact .cons h ih
theorem KRel.keys {k : V → L2.Key} {l : List (L2.Key × PV)} {xs : List V} (r : KRel K B μ H k l xs) : xs.map k = l.map (·.1) := by
  induction r with
  | nil => rfl
  | cons _ e _ ih => rw [List.map_cons, List.map_cons, e, ih]
theorem KRel.perm {k : V → L2.Key} {ys xs : List V} (hp : ys.Perm xs) : ∀ {l : List (L2.Key × PV)}, KRel K B μ H k l xs → ∃ m, m.Perm l ∧ KRel K B μ H k m ys := by
  induction hp with
  | nil => intro l r; exact ⟨l, List.Perm.refl _, r⟩
  | cons x _ ih =>
    intro l r
    cases r with
    | cons h e t =>
      obtain ⟨m, h1, h2⟩ := ih t
      exact ⟨_, h1.cons _, .cons h e h2⟩
  | swap x y l =>
    intro l r
    cases r with
    | cons h e t =>
      cases t with
      | cons h' e' t => exact ⟨_, List.Perm.swap _ _ _, .cons h' e' (.cons h e t)⟩
  | trans _ _ ih1 ih2 =>
    intro l r
    obtain ⟨m, h1, h2⟩ := ih2 r
    obtain ⟨m', h3, h4⟩ := ih1 h2
    exact ⟨m', h3.trans h1, h4⟩
theorem KRel.sorted {k : V → L2.Key} {l : List (L2.Key × PV)} {xs : List V} (r : KRel K B μ H k l xs) (s : xs.Pairwise fun x y => keyLt (k y) (k x) = false) : l.Pairwise fun a b => keyLe a.1 b.1 = true := by
  have h1 : (xs.map k).Pairwise fun a b => keyLe a b = true := List.pairwise_map.mpr (s.imp fun h => by simp [keyLe, h])
  rw [r.keys] at h1
  exact List.pairwise_map.mp h1
open Classical in
/-- the key of a tuple that stands -/
noncomputable def keyAt (K : PySem.W.Frag) [Wd K] (H : Hp) (x : V) : L2.Key := if h : ∃ j : L2.Key, ∃ t zs, x = V.ref t ∧ SqT K H t (kV j :: zs) then h.choose else .inl 0
theorem kV_inj {a b : L2.Key} (h : kV a = kV b) : a = b := by
  cases a <;> cases b <;> simp [kV] at h <;> rw [h]
theorem tupKeys_rel {X : Cx} {pins : List (Addr × Obj)} {σ : L2.St} {s : Shared} (I : Inv X pins σ H s) : ∀ {l : List PV} {kl : List (L2.Key × PV)} {xs : List V}, tupKeys l = some kl → Reps X.K B μ H l xs →
    KRel X.K B μ H (keyAt X.K H) kl xs ∧ ∀ x ∈ xs, ∃ t zs, x = V.ref t ∧ SqT X.K H t (kV (keyAt X.K H x) :: zs)
  | [], kl, xs, e, t => by
    simp only [tupKeys, Option.some.injEq] at e
    subst e
    rw [t.nil_inv]
    exact ⟨.nil, fun x hx => by simp at hx⟩
  | .tup (x :: r) :: l, kl, xs, e, t => by
    simp only [tupKeys] at e
    split at e
    · rename_i k m h1 h2
      cases e
      obtain ⟨v, rr, rfl, r1, t2⟩ := t.cons_inv
      obtain ⟨a, vs, rfl, hs, tt⟩ := Rep.tup_iff.mp r1
      obtain ⟨y, zs, rfl, ry, _⟩ := tt.cons_inv
      have ky := keyP_V ry h1
      subst ky
      have ex : ∃ j : L2.Key, ∃ t zs, V.ref a = V.ref t ∧ SqT X.K H t (kV j :: zs) := ⟨k, a, zs, rfl, hs.sq⟩
      have ka : keyAt X.K H (.ref a) = k := by
        unfold keyAt
        rw [dif_pos ex]
        obtain ⟨t', zs', e', hs'⟩ := ex.choose_spec
        cases e'
        have := I.tuple_inj hs' hs.sq
        injection this with z _
        exact kV_inj z
      obtain ⟨i1, i2⟩ := tupKeys_rel I h2 t2
      refine ⟨.cons r1 ka i1, fun x hx => ?_⟩
      rcases List.mem_cons.mp hx with rfl | hx
      · exact ⟨a, zs, rfl, by rw [ka]; exact hs.sq⟩
      · exact i2 x hx
    · cases e
  | .tup [] :: _, _, _, e, _ => by simp [tupKeys] at e
  | .non :: _, _, _, e, _ => by simp [tupKeys] at e
  | .bl _ :: _, _, _, e, _ => by simp [tupKeys] at e
  | .int _ :: _, _, _, e, _ => by simp [tupKeys] at e
  | .str _ :: _, _, _, e, _ => by simp [tupKeys] at e
  | .lst _ :: _, _, _, e, _ => by simp [tupKeys] at e
  | .ref _ :: _, _, _, e, _ => by simp [tupKeys] at e
end
end Rg

namespace Rg
open PySem PySem.Spec PyProof.Rows L2
theorem ltT_cons (x y : Int) (a b : List Int) : ltT (x :: a) (y :: b) = if x = y then ltT a b else decide (x < y) := rfl
theorem ltT_asym : ∀ a b : List Int, ltT a b = true → ltT b a = false
  | [], [], h => by simp [ltT, lexC] at h
  | [], _ :: _, _ => by simp [ltT, lexC]
  | _ :: _, [], h => by simp [ltT, lexC] at h
  | x :: a, y :: b, h => by
    unfold ltT lexC at h ⊢
    by_cases e : x = y
    · rw [if_pos e] at h; rw [if_pos e.symm]; exact ltT_asym a b h
    · rw [if_neg e] at h; rw [if_neg fun z => e z.symm]
      simp at h ⊢
      omega
theorem ltT_tr : ∀ a b c : List Int, ltT b a = false → ltT c b = false → ltT c a = false
  | [], [], [], _, _ => by simp [ltT, lexC]
  | [], _ :: _, [], _, h => by simp [ltT, lexC]
  | [], [], _ :: _, _, h => by simp [ltT, lexC]
  | [], _ :: _, _ :: _, _, h => by simp [ltT, lexC]
  | _ :: _, [], _, h, _ => by simp [ltT, lexC] at h
  | _ :: _, _ :: _, [], _, h => by simp [ltT, lexC] at h
  | x :: a, y :: b, z :: c, h1, h2 => by
    unfold ltT lexC at h1 h2 ⊢
    by_cases e : y = x
    · rw [if_pos e] at h1
      subst e
      by_cases e2 : z = y
      · rw [if_pos e2] at h2 ⊢; exact ltT_tr a b c h1 h2
      · rw [if_neg e2] at h2 ⊢; exact h2
    · rw [if_neg e] at h1
      by_cases e2 : z = y
      · subst e2
        rw [if_neg e]; exact h1
      · rw [if_neg e2] at h2
        simp at h1 h2
        rw [if_neg (by omega)]
        simp
        omega
theorem ltT_anti : ∀ a b : List Int, ltT a b = false → ltT b a = false → a = b
  | [], [], _, _ => rfl
  | [], _ :: _, h, _ => by simp [ltT, lexC] at h
  | _ :: _, [], _, h => by simp [ltT, lexC] at h
  | x :: a, y :: b, h1, h2 => by
    unfold ltT lexC at h1 h2
    by_cases e : x = y
    · rw [if_pos e] at h1; rw [if_pos e.symm] at h2
      rw [e, ltT_anti a b h1 h2]
    · rw [if_neg e] at h1; rw [if_neg fun z => e z.symm] at h2
      simp at h1 h2
      omega
theorem ltT_irr (a : List Int) : ltT a a = false := by
  cases h : ltT a a with
  | false => rfl
  | true => have := ltT_asym a a h; rw [h] at this; cases this
theorem leT_trans (a b c : List Int) (h1 : leT a b = true) (h2 : leT b c = true) : leT a c = true := by
  simp only [leT, Bool.not_eq_true'] at *
  exact ltT_tr a b c h1 h2
theorem leT_total (a b : List Int) : (leT a b || leT b a) = true := by
  simp only [leT, Bool.or_eq_true, Bool.not_eq_true']
  cases h : ltT b a with
  | false => exact .inl rfl
  | true => exact .inr (ltT_asym _ _ h)
theorem rowsT_uniq {l m : List (List Int × PV)} (h : l.Perm m) (s : l.Pairwise fun a b => leT a.1 b.1 = true) (nd : (m.map (·.1)).Nodup) : l = m.mergeSort fun a b => leT a.1 b.1 := by
  have s2 : (m.mergeSort fun a b => leT a.1 b.1).Pairwise fun a b => leT a.1 b.1 = true := List.pairwise_mergeSort (le := fun (a b : List Int × PV) => leT a.1 b.1) (fun a b c h1 h2 => leT_trans a.1 b.1 c.1 h1 h2) (fun a b => leT_total a.1 b.1) m
  have p : l.Perm (m.mergeSort fun a b => leT a.1 b.1) := h.trans (List.mergeSort_perm m _).symm
  refine p.eq_of_pairwise (le := fun a b => leT a.1 b.1 = true) (fun a b ha hb h1 h2 => ?_) s s2
  have e : a.1 = b.1 := by
    simp only [leT, Bool.not_eq_true'] at h1 h2
    exact ltT_anti _ _ h2 h1
  have ma : a ∈ m := h.mem_iff.mp ha
  have mb : b ∈ m := (List.mergeSort_perm m _).mem_iff.mp hb
  obtain ⟨i, hi, ei⟩ := List.mem_iff_getElem.mp ma
  obtain ⟨j, hj, ej⟩ := List.mem_iff_getElem.mp mb
  have : i = j := by
    refine (List.getElem_inj (h₀ := by simpa using hi) (h₁ := by simpa using hj) nd).mp ?_
    simp only [List.getElem_map, ei, ej, e]
  subst this
  rw [← ei, ← ej]
/-- the tuple of whole numbers at b -/
def ITup (h : Heap) (b : Addr) (ms : List Int) : Prop := ∃ (o : Obj) (its : Array Value) (n : Nat), h.get? b = some o ∧ o.cls = .type "tuple" ∧ o.data = .seq its n ∧ IntsAre its.toList ms
def ZTup (h : Heap) (f : Bool) (v : Value) (ns : List Int) : Prop := ∃ (a : Addr) (o : Obj) (xs : Array Value) (n : Nat), v = .ref a ∧ h.get? a = some o ∧ o.cls = .type "tuple" ∧ o.data = .seq xs n ∧
  if f = true then ∃ (e : Int) (t : Tok) (b : Addr) (ms : List Int) (rest : List Value), ns = e :: ms ∧ xs.toList = .int e t :: .ref b :: rest ∧ ITup h b ms else IntsAre xs.toList ns
theorem ITup.keeps {h h' : Heap} {b : Addr} {ms : List Int} (t : ITup h b ms) (kp : ∀ b o, h.get? b = some o → o.cls = .type "tuple" → h'.get? b = some o) : ITup h' b ms := by
  obtain ⟨o, its, n, h1, h2, h3, h4⟩ := t
  exact ⟨o, its, n, kp _ _ h1 h2, h2, h3, h4⟩
theorem ZTup.keeps {h h' : Heap} {f : Bool} {v : Value} {k : List Int} (t : ZTup h f v k) (kp : ∀ b o, h.get? b = some o → o.cls = .type "tuple" → h'.get? b = some o) : ZTup h' f v k := by
  obtain ⟨a, o, xs, n, e, h1, h2, h3, h4⟩ := t
  refine ⟨a, o, xs, n, e, kp _ _ h1 h2, h2, h3, ?_⟩
  cases f with
  | false => exact h4
  | true =>
    rw [if_pos rfl] at h4 ⊢
    obtain ⟨e, t, b, ms, rest, q1, q2, q3⟩ := h4
    exact ⟨e, t, b, ms, rest, q1, q2, q3.keeps kp⟩
theorem intsAre_inj : ∀ {l : List Value} {a b : List Int}, IntsAre l a → IntsAre l b → a = b
  | [], _, _, .nil, .nil => rfl
  | _ :: _, _, _, .cons _ _ p, .cons _ _ q => by rw [intsAre_inj p q]
theorem ITup.inj {h : Heap} {b : Addr} {x y : List Int} (p : ITup h b x) (q : ITup h b y) : x = y := by
  obtain ⟨o, its, n, h1, h2, h3, h4⟩ := p
  obtain ⟨o', its', n', g1, g2, g3, g4⟩ := q
  rw [h1] at g1; cases g1
  rw [h3] at g3; cases g3
  exact intsAre_inj h4 g4
theorem ZTup.inj {h : Heap} {f : Bool} {v : Value} {x y : List Int} (p : ZTup h f v x) (q : ZTup h f v y) : x = y := by
  obtain ⟨a, o, xs, n, e, h1, h2, h3, h4⟩ := p
  obtain ⟨a', o', xs', n', e', g1, g2, g3, g4⟩ := q
  rw [e] at e'; cases e'
  rw [h1] at g1; cases g1
  rw [h3] at g3; cases g3
  cases f with
  | false => exact intsAre_inj h4 g4
  | true =>
    rw [if_pos rfl] at h4 g4
    obtain ⟨e, t, b, ms, rest, q1, q2, q3⟩ := h4
    obtain ⟨e', t', b', ms', rest', r1, r2, r3⟩ := g4
    rw [q2] at r2; cases r2
    rw [q1, r1, q3.inj r3]
section
variable {prog : Program} {w : World} {A : Around} {E : Value → Shared → Prop} {s : Shared}
theorem ITup.nested {h : Heap} {b : Addr} {ms : List Int} (t : ITup h b ms) : NestedIs h (.tup (ms.map .num)) (.ref b) := by
  obtain ⟨o, its, n, h1, h2, h3, h4⟩ := t
  refine .tup h1 h2 h3 ?_
  have : ∀ {l : List Value} {ns : List Int}, IntsAre l ns → NestedAll h (ns.map .num) l := by
    intro l ns q
    induction q with
    | nil => exact .nil
    | cons i t q ih => exact .cons (.int i t) ih
  exact this h4
theorem beqAll_num : ∀ a b : List Int, NestedKey.beqAll (a.map .num) (b.map .num) = decide (a = b)
  | [], [] => by simp [NestedKey.beqAll]
  | [], _ :: _ => by simp [NestedKey.beqAll]
  | _ :: _, [] => by simp [NestedKey.beqAll]
  | x :: a, y :: b => by
    simp only [List.map_cons, NestedKey.beqAll, NestedKey.beq, beqAll_num a b]
    by_cases e : x = y <;> simp [e]
theorem depth_num : ∀ a : List Int, NestedKey.depthAll (a.map .num) = 0
  | [] => rfl
  | x :: a => by simp only [List.map_cons, NestedKey.depthAll, NestedKey.depth, depth_num a]; rfl
theorem ITup.eq {b b' : Addr} {x y : List Int} (p : ITup s.heap b x) (q : ITup s.heap b' y) (hu : A.units + 1 < cLine) : SeqAt.EqAt A s (.ref b) (.ref b') (decide (x = y)) := by
  have := eqAt_key (.tup (x.map .num)) (.tup (y.map .num)) A s (.ref b) (.ref b') p.nested q.nested (by simp only [NestedKey.depth, depth_num]; omega)
  simp only [NestedKey.beq, beqAll_num] at this
  exact this
/-- < of tuples of whole numbers -/
theorem ITup.lt {b b' : Addr} {x y : List Int} (p : ITup s.heap b x) (q : ITup s.heap b' y) (hu : A.units < cLine) : Ob.RcOp .Lt A s (.ref b) (.ref b') (ltT x y) := by
  obtain ⟨o, its, n, h1, h2, h3, i1⟩ := p
  obtain ⟨o', its2, n', g1, g2, g3, i2⟩ := q
  have e1 : its.size = x.length := by rw [← Array.length_toList]; exact i1.length
  have e2 : its2.size = y.length := by rw [← Array.length_toList]; exact i2.length
  have at1 : ∀ j (h1 : j < its.size), ∃ t, its[j] = .int (x.getD j 0) t := fun j h1 => by
    exact PyProof.Rows.IntsAre.int_at i1 _ _ (by simp [h1])
  have at2 : ∀ j (h1 : j < its2.size), ∃ t, its2[j] = .int (y.getD j 0) t := fun j h1 => by
    exact PyProof.Rows.IntsAre.int_at i2 _ _ (by simp [h1])
  have R := Ob.RcOp.tuples_lt (A := A) (s := s) (e := fun j => decide (x.getD j 0 = y.getD j 0)) (r := fun j => decide (x.getD j 0 < y.getD j 0)) ⟨o, h1, h2, n, h3⟩ ⟨o', g1, g2, n', g3⟩ hu (fun j h1 h2 => by
    obtain ⟨t, et⟩ := at1 j h1
    obtain ⟨t', et'⟩ := at2 j h2
    rw [et, et']
    have z : (x.getD j 0 == y.getD j 0) = decide (x.getD j 0 = y.getD j 0) := by
      by_cases q : x.getD j 0 = y.getD j 0
      · rw [decide_eq_true q]; exact beq_iff_eq.mpr q
      · rw [decide_eq_false q]; exact beq_eq_false_iff_ne.mpr q
    rw [← z]
    exact SeqAt.EqAt.int_int _ _ _ _) (fun j h1 h2 _ => by
    obtain ⟨t, et⟩ := at1 j h1
    obtain ⟨t', et'⟩ := at2 j h2
    rw [et, et']
    exact Ob.RcOp.lt_int _ _ _ _)
  have L := lexC_at (r := fun a b => decide (a < b)) (z := fun a b => decide (a < b)) (fun a b k => by by_cases q : a < b <;> simp [q]) x y (min x.length y.length) 0 (by omega)
  rw [e1, e2] at R
  have e : ltT x y = Ob.lexAt (fun j => decide (x.getD j 0 = y.getD j 0)) (fun j => decide (x.getD j 0 < y.getD j 0)) (decide (x.length < y.length)) 0 (min x.length y.length) := L.symm
  rw [e]
  exact R
theorem lexC_refl : ∀ l : List Int, lexC (fun a b => decide (a ≤ b)) (fun a b => decide (a ≤ b)) l l = true
  | [] => rfl
  | x :: l => by unfold lexC; rw [if_pos rfl]; exact lexC_refl l
/-- <= of tuples of whole numbers -/
theorem ITup.le {b b' : Addr} {x y : List Int} (p : ITup s.heap b x) (q : ITup s.heap b' y) (hu : A.units < cLine) : Ob.RcOp .LtE A s (.ref b) (.ref b') (lexC (fun a b => decide (a ≤ b)) (fun a b => decide (a ≤ b)) x y) := by
  obtain ⟨o, its, n, h1, h2, h3, i1⟩ := p
  obtain ⟨o', its2, n', g1, g2, g3, i2⟩ := q
  have e1 : its.size = x.length := by rw [← Array.length_toList]; exact i1.length
  have e2 : its2.size = y.length := by rw [← Array.length_toList]; exact i2.length
  have at1 : ∀ j (h1 : j < its.size), ∃ t, its[j] = .int (x.getD j 0) t := fun j h1 => by
    exact PyProof.Rows.IntsAre.int_at i1 _ _ (by simp [h1])
  have at2 : ∀ j (h1 : j < its2.size), ∃ t, its2[j] = .int (y.getD j 0) t := fun j h1 => by
    exact PyProof.Rows.IntsAre.int_at i2 _ _ (by simp [h1])
  have R := Ob.RcOp.tuples_le (A := A) (s := s) (e := fun j => decide (x.getD j 0 = y.getD j 0)) (r := fun j => decide (x.getD j 0 ≤ y.getD j 0)) ⟨o, h1, h2, n, h3⟩ ⟨o', g1, g2, n', g3⟩ hu (fun j h1 h2 => by
    obtain ⟨t, et⟩ := at1 j h1
    obtain ⟨t', et'⟩ := at2 j h2
    rw [et, et']
    have z : (x.getD j 0 == y.getD j 0) = decide (x.getD j 0 = y.getD j 0) := by
      by_cases q : x.getD j 0 = y.getD j 0
      · rw [decide_eq_true q]; exact beq_iff_eq.mpr q
      · rw [decide_eq_false q]; exact beq_eq_false_iff_ne.mpr q
    rw [← z]
    exact SeqAt.EqAt.int_int _ _ _ _) (fun j h1 h2 _ => by
    obtain ⟨t, et⟩ := at1 j h1
    obtain ⟨t', et'⟩ := at2 j h2
    rw [et, et']
    exact Ob.RcOp.le_int _ _ _ _)
  have L := lexC_at (r := fun a b => decide (a ≤ b)) (z := fun a b => decide (a ≤ b)) (fun a b k => by by_cases q : a ≤ b <;> simp [q]) x y (min x.length y.length) 0 (by omega)
  rw [e1, e2] at R
  have e : lexC (fun a b => decide (a ≤ b)) (fun a b => decide (a ≤ b)) x y = Ob.lexAt (fun j => decide (x.getD j 0 = y.getD j 0)) (fun j => decide (x.getD j 0 ≤ y.getD j 0)) (decide (x.length ≤ y.length)) 0 (min x.length y.length) := L.symm
  rw [e]
  exact R
/-- <= of pairs: a whole number and a tuple of such -/
theorem pair_le {a a' b b' : Addr} {e e' : Int} {t t' : Tok} {x y : List Int} (h1 : s.heap.IsTuple a #[.int e t, .ref b]) (h2 : s.heap.IsTuple a' #[.int e' t', .ref b']) (p : ITup s.heap b x) (q : ITup s.heap b' y) (hu : A.units + 4 < cLine) :
    Ob.RcOp .LtE A s (.ref a) (.ref a') (if e = e' then lexC (fun a b => decide (a ≤ b)) (fun a b => decide (a ≤ b)) x y else decide (e ≤ e')) := by
  have u1 : A.in1.units + 1 < cLine := by
    have : A.in1.units = A.units + 1 := rfl
    omega
  have R := Ob.RcOp.tuples_le (A := A) (s := s) (e := fun j => if j = 0 then decide (e = e') else decide (x = y)) (r := fun j => if j = 0 then decide (e ≤ e') else lexC (fun a b => decide (a ≤ b)) (fun a b => decide (a ≤ b)) x y) h1 h2 (by omega) (fun j g1 g2 => by
    match j, g1, g2 with
    | 0, _, _ =>
      have z : (e == e') = decide (e = e') := by
        by_cases q : e = e'
        · rw [decide_eq_true q]; exact beq_iff_eq.mpr q
        · rw [decide_eq_false q]; exact beq_eq_false_iff_ne.mpr q
      show SeqAt.EqAt A.in1 s (.int e t) (.int e' t') (decide (e = e'))
      rw [← z]
      exact SeqAt.EqAt.int_int _ _ _ _
    | 1, _, _ => exact p.eq q u1
    | j + 2, g1, _ => simp at g1; omega) (fun j g1 g2 _ => by
    match j, g1, g2 with
    | 0, _, _ => exact Ob.RcOp.le_int _ _ _ _
    | 1, _, _ => exact p.le q (by omega)
    | j + 2, g1, _ => simp at g1; omega)
  have e : (if e = e' then lexC (fun a b => decide (a ≤ b)) (fun a b => decide (a ≤ b)) x y else decide (e ≤ e')) = Ob.lexAt (fun j => if j = 0 then decide (e = e') else decide (x = y)) (fun j => if j = 0 then decide (e ≤ e') else lexC (fun a b => decide (a ≤ b)) (fun a b => decide (a ≤ b)) x y) (decide ((#[Value.int e t, .ref b] : Array Value).size ≤ (#[Value.int e' t', .ref b'] : Array Value).size)) 0 (min (#[Value.int e t, .ref b] : Array Value).size (#[Value.int e' t', .ref b'] : Array Value).size) := by
    show _ = Ob.lexAt _ _ _ 0 2
    rw [Ob.lexAt_succ, Ob.lexAt_succ, Ob.lexAt_zero]
    by_cases c : e = e'
    · by_cases d : x = y
      · subst d; simp [c, lexC_refl]
      · simp [c, d]
    · simp [c]
  rw [e]
  exact R
theorem katLex_ints {b : Bool} {Q : Bool → Shared → Prop} : ∀ {l m : List Value} {x y : List Int} (i : Nat), IntsAre l x → IntsAre m y → x.length = y.length → Q (ltT x y) s → PySem.W.KatLex prog w A b false Q (l.zip m) i s
  | [], [], _, _, i, .nil, .nil, _, q => PySem.W.kat_nil (by simpa [ltT, lexC] using q)
  | [], _ :: _, _, _, i, .nil, .cons .., hl, q => by simp at hl
  | _ :: _, [], _, _, i, .cons .., .nil, hl, q => by simp at hl
  | _ :: l, _ :: m, _, _, i, .cons x t p, .cons y u r, hl, q => by
    refine PySem.W.kat_cons (SeqAt.EqAt.int_int x t y u prog w _ _ ?_)
    refine PySem.W.kat_go (fun e1 => ?_) (fun e1 => ?_)
    · have e : x = y := by simpa using e1
      refine PySem.W.kat_yes (katLex_ints (i + 1) p r (by simpa using hl) ?_)
      unfold ltT lexC at q
      rw [if_pos e] at q
      exact q
    · have e : ¬ x = y := by simpa using e1
      unfold ltT lexC at q
      rw [if_neg e] at q
      exact PySem.W.kat_no (TS.oneLt_ints _ q)
theorem ztup_cmp {vs : List Value} {k : Value → List Int} {f : Bool} {n : Nat} (hu : A.units + 4 < cLine) (hk : ∀ v ∈ vs, ZTup s.heap f v (k v)) (hn : ∀ v ∈ vs, (k v).length = n) (hi : ∀ v ∈ vs, ∀ u ∈ vs, k v = k u → v = u) :
    SrtO.Cmp prog w A s (tuples' true) (fun p => p.1 ∈ vs) (SrtO.lt2 fun v u => ltT (k v) (k u)) := by
  intro p q hm hm'
  obtain ⟨a, o, xs, m, e, ho, hcl, hd, hf⟩ := hk _ hm
  obtain ⟨a', o', xs', m', e', ho', hcl', hd', hf'⟩ := hk _ hm'
  by_cases ek : k p.1 = k q.1
  · have ev := hi _ hm _ hm' ek
    show wpAny (model prog w) A (keyLt' (tuples' true) p.1 q.1) (fun r s' => s' = s ∧ r = ltT (k p.1) (k q.1)) (fun _ _ => False) s
    rw [← ek, ltT_irr, ← ev, e]
    refine PySem.W.kat_lt ho hd ho hd (katLex_same ⟨rfl, ?_⟩ _ _)
    simp
  · show wpAny (model prog w) A (keyLt' (tuples' true) p.1 q.1) (fun r s' => s' = s ∧ r = ltT (k p.1) (k q.1)) (fun _ _ => False) s
    have c1 := hn _ hm
    have c2 := hn _ hm'
    generalize k p.1 = kp at *
    generalize k q.1 = kq at *
    rw [e, e']
    refine PySem.W.kat_lt ho hd ho' hd' ?_
    cases f with
    | false =>
      have f1 : IntsAre xs.toList kp := hf
      have f2 : IntsAre xs'.toList kq := hf'
      have z1 : xs.size = kp.length := by rw [← Array.length_toList]; exact f1.length
      have z2 : xs'.size = kq.length := by rw [← Array.length_toList]; exact f2.length
      rw [z1, z2, c1, c2, decide_eq_false (Nat.lt_irrefl n)]
      exact katLex_ints 0 f1 f2 (c1.trans c2.symm) ⟨rfl, rfl⟩
    | true =>
      rw [if_pos rfl] at hf hf'
      obtain ⟨x, t, b, ms, rest, q1, q2, q3⟩ := hf
      obtain ⟨y, u, b', ms', rest', r1, r2, r3⟩ := hf'
      rw [q2, r2]
      subst q1 r1
      have goal : ∀ z : Bool, z = ltT (x :: ms) (y :: ms') → (s = s ∧ z = ltT (x :: ms) (y :: ms')) := fun z hz => ⟨rfl, hz⟩
      refine PySem.W.kat_cons (SeqAt.EqAt.int_int x t y u prog w _ _ ?_)
      refine PySem.W.kat_go (fun e1 => ?_) (fun e1 => ?_)
      · have e : x = y := by simpa using e1
        subst e
        have ne : ¬ ms = ms' := fun z => ek (by rw [z])
        refine PySem.W.kat_yes (PySem.W.kat_cons (q3.eq r3 (by omega) prog w _ _ ?_))
        rw [decide_eq_false ne]
        refine PySem.W.kat_no ?_
        show wpAny (model prog w) A (oneLt' false (.ref b) (.ref b')) _ _ _
        refine PySem.W.kat_one _ _ (q3.lt r3 (by omega) prog w _ _ ?_)
        exact ⟨rfl, by rw [ltT_cons, if_pos rfl]⟩
      · have e : ¬ x = y := by simpa using e1
        exact PySem.W.kat_no (TS.oneLt_ints _ ⟨rfl, by rw [ltT_cons, if_neg e]⟩)
theorem ztup_firsts {h : Heap} {f : Bool} {k : Value → List Int} {n : Nat} (hn : 0 < n) : ∀ {vs : List Value}, (∀ v ∈ vs, ZTup h f v (k v) ∧ (k v).length = n) → ∃ fs : List Value, PySem.W.KatTups h vs fs ∧ fs.length = vs.length ∧ ∀ g ∈ fs, ∃ i t, g = .int i t
  | [], _ => ⟨[], PySem.W.KatTups.nil, rfl, fun _ hm => by simp at hm⟩
  | v :: vs, hp => by
    obtain ⟨fs, h1, h2, h3⟩ := ztup_firsts hn (vs := vs) fun v' hm => hp v' (List.mem_cons_of_mem _ hm)
    obtain ⟨⟨a, o, xs, m, e, ho, hc, hd, hf⟩, hl⟩ := hp v (List.mem_cons_self ..)
    subst e
    have : ∃ i t, xs[0]? = some (.int i t) := by
      cases f with
      | false =>
        have f1 : IntsAre xs.toList (k (.ref a)) := hf
        generalize k (.ref a) = kk at f1 hl
        rw [← Array.getElem?_toList]
        generalize xs.toList = xl at f1
        cases f1 with
        | nil => simp at hl; omega
        | cons i t r => exact ⟨i, t, by simp⟩
      | true =>
        rw [if_pos rfl] at hf
        obtain ⟨x, t, b, ms, rest, q1, q2, q3⟩ := hf
        exact ⟨x, t, by rw [← Array.getElem?_toList, q2]; rfl⟩
    obtain ⟨i, t, hx⟩ := this
    refine ⟨.int i t :: fs, PySem.W.KatTups.cons ho hc hd hx h1, by rw [List.length_cons, List.length_cons, h2], fun g hm => ?_⟩
    rcases List.mem_cons.mp hm with rfl | hm
    · exact ⟨i, t, rfl⟩
    · exact h3 g hm
theorem ztup_sortable {a : Addr} {vs : List Value} {k : Value → List Int} {f : Bool} {n : Nat} (hu : A.units + 4 < cLine) (h0 : 0 < vs.length) (hn0 : 0 < n) (hk : ∀ v ∈ vs, ZTup s.heap f v (k v)) (hn : ∀ v ∈ vs, (k v).length = n) (hi : ∀ v ∈ vs, ∀ u ∈ vs, k v = k u → v = u)
    (ha : ∀ o, s.heap.get? a = some o → o.cls ≠ .type "tuple") : SrtO.SortableO prog w A s a vs fun v u => ltT (k v) (k u) := by
  intro h' keep
  have hp' : ∀ v ∈ vs, ZTup h' f v (k v) := fun v hm => (hk v hm).keeps fun b o e cc => keep b o (fun z => by subst z; exact ha o e cc) e
  obtain ⟨fs, h1, h2, h3⟩ := ztup_firsts hn0 fun v hv => ⟨hp' v hv, hn v hv⟩
  refine ⟨tuples' true, fun Q E hq => ?_, ztup_cmp hu hp' hn hi⟩
  refine PySem.W.kat_kind (T := .type "int") h1 (by omega) (fun g hm => ?_) (by rfl) ?_
  · obtain ⟨i, t, rfl⟩ := h3 g hm
    exact PySem.W.Looks.now
  · have e : (Value.type "int" != Value.type "tuple") = true := by first | decide +kernel | rfl | decide
    rw [e]; exact hq
theorem swoT (k : Value → List Int) : SrtO.Swo fun v u => ltT (k v) (k u) := ⟨fun x y => ltT_asym _ _, fun x y z => ltT_tr _ _ _⟩
theorem sorted_ztup {l : Addr} {vs : List Value} {k : Value → List Int} {f : Bool} {n : Nat} {Q : Value → Shared → Prop} (hu : A.units + 64 < cLine) (hl : s.heap.IsList l vs.toArray) (hz : vs.length ≤ sizeLine) (hn0 : 0 < n) (hk : ∀ v ∈ vs, ZTup s.heap f v (k v)) (hn : ∀ v ∈ vs, (k v).length = n) (hi : ∀ v ∈ vs, ∀ u ∈ vs, k v = k u → v = u)
    (h : ∀ (h' : Heap) (d : Addr) (out : List Value), out.Pairwise (fun v u => ltT (k u) (k v) = false) → out.Perm vs → (∀ b o, s.heap.get? b = some o → h'.get? b = some o) → s.heap.objs.size ≤ d → (∃ n, h'.get? d = some (seqObj "list" out.toArray n)) → Q (.ref d) { s with heap := h' }) :
    wpAny (model prog w) A (call (.builtin "sorted") [.ref l]) Q E s := by
  refine SrtO.sorted_ord (ltv := fun v u => ltT (k v) (k u)) (swoT k) hl hz (fun h2 h₁ a ha kk => ?_) fun out hs hb => ?_
  · have hu2 : A.in1.in1.units + 4 < cLine := by
      have e : A.in1.in1.units = A.units + 2 := rfl
      omega
    refine ztup_sortable (s := { s with heap := h₁ }) hu2 (by omega) hn0 (fun v hm => (hk v hm).keeps fun b o e _ => (kk b o e).2) hn hi fun o e => ?_
    have e' : some o = some (seqObj "list" vs.toArray 0) := e.symm.trans ha
    cases e'
    intro cc
    exact absurd (Value.type.inj cc) (by decide)
  · exact h _ _ out hs hb.perm (fun b o e => sortedAll_old e) (Nat.le_succ _) (sortedAll_at s.heap vs out.toArray)
end
section
variable {X : Cx} {B μ : List Addr} {h : MH} {H : Hp} {pins : List (Addr × Obj)} {σ : L2.St} {s : Shared}
theorem itup_of (I : Inv X pins σ H s) {l : List PV} {ns : List Int} {b : Addr} (e : intsP l = some ns) {vs : List V} (hs : SqT X.K H b vs) (t : Reps X.K B μ H l vs) : ITup s.heap b ns := by
  obtain ⟨its, rv, ⟨o, ho, hc, n, hd⟩, _⟩ := I.tuple hs
  have z := Reps.all_int e t
  subst z
  exact ⟨o, _, n, ho, hc, hd, Vals.ints rv⟩
theorem ztup_flat (I : Inv X pins σ H s) {l : List PV} {k : List Int} {x : V} {v : Value} (e : intsP l = some k) (r : Rep X.K B μ H (.tup l) x) (rv : RelV x v) : ZTup s.heap false v k := by
  obtain ⟨a, vs, rfl, hs, t⟩ := Rep.tup_iff.mp r
  obtain rfl : v = .ref a := rv
  obtain ⟨o, its, n, h1, h2, h3, h4⟩ := itup_of I e hs.sq t
  exact ⟨a, o, its, n, rfl, h1, h2, h3, h4⟩
theorem ztup_of (I : Inv X pins σ H s) {p : PV} {k : List Int} {f : Bool} {x : V} {v : Value} (e : keyT p = some (k, f)) (r : Rep X.K B μ H p x) (rv : RelV x v) : ZTup s.heap f v k := by
  unfold keyT at e
  split at e
  · rename_i i l rest
    split at e
    · rename_i ns hns
      cases e
      obtain ⟨a, vs, rfl, hs, t⟩ := Rep.tup_iff.mp r
      obtain rfl : v = .ref a := rv
      obtain ⟨v1, w1, rfl, r1, t1⟩ := t.cons_inv
      obtain ⟨v2, w2, rfl, r2, t2⟩ := t1.cons_inv
      obtain ⟨b, vs2, rfl, hs2, tt⟩ := Rep.tup_iff.mp r2
      rw [Rep.int_iff.mp r1] at hs
      obtain ⟨its, rvs, ⟨o, ho, hc, n, hd⟩, _⟩ := I.tuple hs.sq
      cases rvs with
      | cons q1 q2 =>
        cases q2 with
        | cons q2 q3 =>
          obtain ⟨tk, rfl⟩ := q1
          cases q2
          refine ⟨a, o, _, n, rfl, ho, hc, hd, ?_⟩
          rw [if_pos rfl]
          exact ⟨i, tk, b, ns, _, rfl, rfl, itup_of I hns hs2.sq tt⟩
    · cases e
  · split at e
    · rename_i ns hns
      cases e
      exact ztup_flat I hns r rv
    · cases e
  · cases e
open Classical in
/-- a value's key -/
noncomputable def zkey (h : Heap) (f : Bool) (v : Value) : List Int := if e : ∃ k, ZTup h f v k then e.choose else []
theorem zkey_of {h : Heap} {f : Bool} {v : Value} {k : List Int} (z : ZTup h f v k) : zkey h f v = k := by
  unfold zkey
  rw [dif_pos ⟨k, z⟩]
  exact (Exists.choose_spec ⟨k, z⟩ : ZTup h f v _).inj z
inductive ZRel (K : PySem.W.Frag) [Wd K] (B μ : List Addr) (H : Hp) (k : Value → List Int) : List (List Int × PV) → List Value → Prop where
  | nil : ZRel K B μ H k [] []
  | cons {p : PV} {a : Addr} {l : List (List Int × PV)} {xs : List Value} (r : Rep K B μ H p (.ref a)) (t : ZRel K B μ H k l xs) : ZRel K B μ H k ((k (.ref a), p) :: l) (.ref a :: xs)
theorem ZRel.reps {K : PySem.W.Frag} [Wd K] {k : Value → List Int} {l : List (List Int × PV)} {xs : List Value} (r : ZRel K B μ H k l xs) : Reps K B μ H (l.map (·.2)) (xs.map backV) := by
  induction r with
  | nil => exact .nil
  | cons r t ih => exact .cons r ih
theorem ZRel.vals {K : PySem.W.Frag} [Wd K] {k : Value → List Int} {l : List (List Int × PV)} {xs : List Value} (r : ZRel K B μ H k l xs) : Vals (xs.map backV) xs := by
  induction r with
  | nil => exact .nil
  | cons r t ih => exact .cons rfl ih
theorem ZRel.keys {K : PySem.W.Frag} [Wd K] {k : Value → List Int} {l : List (List Int × PV)} {xs : List Value} (r : ZRel K B μ H k l xs) : xs.map k = l.map (·.1) := by
  induction r with
  | nil => rfl
  | cons r t ih => simp [ih]
theorem ZRel.perm {K : PySem.W.Frag} [Wd K] {k : Value → List Int} {ys xs : List Value} (hp : ys.Perm xs) : ∀ {l : List (List Int × PV)}, ZRel K B μ H k l xs → ∃ m, m.Perm l ∧ ZRel K B μ H k m ys := by
  induction hp with
  | nil => exact fun r => ⟨_, .refl _, r⟩
  | cons x hp ih =>
    intro l r
    cases r with
    | cons r t =>
      obtain ⟨m, h1, h2⟩ := ih t
      exact ⟨_, h1.cons _, .cons r h2⟩
  | swap x y l' =>
    intro l r
    cases r with
    | cons r t =>
      cases t with
      | cons r2 t => exact ⟨_, List.Perm.swap _ _ _, .cons r2 (.cons r t)⟩
  | trans h1 h2 ih1 ih2 =>
    intro l r
    obtain ⟨m, a1, a2⟩ := ih2 r
    obtain ⟨m2, b1, b2⟩ := ih1 a2
    exact ⟨m2, b1.trans a1, b2⟩
theorem zrel_of (I : Inv X pins σ H s) {f : Bool} {n : Nat} : ∀ {l : List PV} {kl : List (List Int × PV)} {xs : List V} {us : List Value}, keysT f n l = some kl → Reps X.K B μ H l xs → Vals xs us →
    ZRel X.K B μ H (zkey s.heap f) kl us ∧ ∀ v ∈ us, ZTup s.heap f v (zkey s.heap f v) ∧ (zkey s.heap f v).length = n
  | [], kl, xs, us, e, r, rv => by
    simp only [keysT, Option.some.injEq] at e
    subst e
    rw [r.nil_inv] at rv
    cases rv
    exact ⟨.nil, fun v hv => by simp at hv⟩
  | p :: l, kl, xs, us, e, r, rv => by
    simp only [keysT] at e
    split at e
    · rename_i k g m h1 h2
      split at e
      · rename_i hc
        cases e
        obtain ⟨rfl, hl⟩ := hc
        obtain ⟨x, w, rfl, r1, r2⟩ := r.cons_inv
        cases rv with
        | cons rv1 rv2 =>
          obtain ⟨z1, z2⟩ := zrel_of I h2 r2 rv2
          have z := ztup_of I h1 r1 rv1
          have ez := zkey_of z
          obtain ⟨a, o, xs', n', ev, _⟩ := z
          subst ev
          obtain ⟨l0, rfl⟩ : ∃ l0, p = .tup l0 := by
            unfold keyT at h1
            split at h1
            · exact ⟨_, rfl⟩
            · exact ⟨_, rfl⟩
            · cases h1
          obtain ⟨a0, vs0, rfl, _⟩ := Rep.tup_iff.mp r1
          cases rv1
          refine ⟨?_, fun v hv => ?_⟩
          · have := ZRel.cons (k := zkey s.heap g) r1 z1
            rw [ez] at this
            exact this
          · rcases List.mem_cons.mp hv with rfl | hv
            · rw [ez]; exact ⟨ztup_of I h1 r1 rfl, hl⟩
            · exact z2 v hv
      · cases e
    · cases e
/-- what sorted tells -/
theorem sortT_out (I : Inv X pins σ H s) (rl : Rel X.K B μ h H) {f : Bool} {kl : List (List Int × PV)} {us out : List Value} {Q : VK} {h' : Heap} {d : Addr} (z : ZRel X.K B μ H (zkey s.heap f) kl us) (nd : (kl.map (·.1)).Nodup)
    (q : ∀ y μ' H', Step μ H μ' H' → Rel X.K B μ' h H' → Rep X.K B μ' H' (.lst ((kl.mergeSort fun a b => leT a.1 b.1).map (·.2))) y → Q y H') (hz : us.length ≤ sizeLine)
    (h1 : out.Pairwise fun v u => ltT (zkey s.heap f u) (zkey s.heap f v) = false) (h2 : out.Perm us) (kp : ∀ b o, s.heap.get? b = some o → h'.get? b = some o) (hd : s.heap.objs.size ≤ d) (hn : ∃ n, h'.get? d = some (seqObj "list" out.toArray n)) (t' : Nat) : EP X pins σ Q (.ref d) { s with heap := h', toks := t' } := by
  obtain ⟨m, hm, zm⟩ := z.perm h2
  have sm : m.Pairwise fun a b => leT a.1 b.1 = true := by
    have e := zm.keys
    have p1 : (out.map (zkey s.heap f)).Pairwise fun a b => leT a b = true := List.pairwise_map.mpr (h1.imp fun {a b} hab => by simp only [leT, hab]; rfl)
    rw [e] at p1
    exact List.pairwise_map.mp p1
  have em := rowsT_uniq hm sm nd
  obtain ⟨n, hn⟩ := hn
  have np : H d = none := I.hok.fresh hd
  have hl : (out.map backV).length ≤ sizeLine := by rw [List.length_map, h2.length_eq]; exact hz
  refine ⟨.ref d, upd H d (.lst (out.map backV)), I.laid (t' := t') kp hd ⟨hl, out, n, zm.vals, hn⟩, rfl, q _ μ _ (.new np) (rl.new np) ?_⟩
  rw [← em]
  exact .newLst rl np zm.reps
theorem zinj {K : PySem.W.Frag} [Wd K] {k : Value → List Int} {kl : List (List Int × PV)} {us : List Value} (z : ZRel K B μ H k kl us) (nd : (kl.map (·.1)).Nodup) : ∀ v ∈ us, ∀ u ∈ us, k v = k u → v = u := by
  have nd2 : (us.map k).Nodup := by rw [z.keys]; exact nd
  intro x hx y hy e
  obtain ⟨i, hi, ei⟩ := List.mem_iff_getElem.mp hx
  obtain ⟨j, hj, ej⟩ := List.mem_iff_getElem.mp hy
  have : i = j := by
    refine (List.getElem_inj (h₀ := by simpa using hi) (h₁ := by simpa using hj) nd2).mp ?_
    simp only [List.getElem_map, ei, ej, e]
  subst this
  rw [← ei, ← ej]
/-- sorted(l), a list of tuples -/
theorem cl_sortT (hu : X.A.units + 64 < cLine) (I : Inv X pins σ H s) (rl : Rel X.K B μ h H) {a : Addr} {l : List PV} {xs : List V} {w : PV} {Q : VK} (hs : SqL X.K H a xs) (t : Reps X.K B μ H l xs) (e : sortT l = .ok w) (hne : l ≠ [])
    (q : ∀ y μ' H', Step μ H μ' H' → Rel X.K B μ' h H' → Rep X.K B μ' H' w y → Q y H') : wpAny (model X.prog X.w) X.A (call (.builtin "sorted") [.ref a]) (EP X pins σ Q) X.xe s := by
  obtain ⟨its, rv, hl, hz⟩ := I.list hs
  unfold sortT at e
  split at e
  · exact absurd rfl hne
  · split at e
    · rename_i k f hk
      split at e
      · rename_i kl hkl
        split at e
        · rename_i hc
          cases e
          obtain ⟨z1, z2⟩ := zrel_of I hkl t rv
          have hz' : its.length ≤ sizeLine := by rw [← rv.length]; exact hz
          exact sorted_ztup hu hl.isList hz' hc.1 (fun v hv => (z2 v hv).1) (fun v hv => (z2 v hv).2) (zinj z1 hc.2) fun h' d out p1 p2 kp hd hn => sortT_out I rl z1 hc.2 q hz' p1 p2 kp hd hn s.toks
        · cases e
      · cases e
    · cases e
theorem keys_reps {K : PySem.W.Frag} [Wd K] : ∀ {l : List (NestedKey × PV)} {xs : List (NestedKey × Addr × Value)}, xs.map (·.1) = l.map (·.1) → (∀ x ∈ xs, Rep K B μ H (nkV x.1) (.ref x.2.1) ∧ x.1.depth ≤ 8) → Reps K B μ H (l.map fun p => nkV p.1) (xs.map fun x => V.ref x.2.1)
  | [], [], _, _ => .nil
  | [], _ :: _, e, _ => by simp at e
  | _ :: _, [], e, _ => by simp at e
  | p :: l, x :: xs, e, h => by
    simp only [List.map_cons, List.cons.injEq] at e ⊢
    refine .cons ?_ (keys_reps e.2 fun y hy => h y (List.mem_cons_of_mem _ hy))
    rw [← e.1]
    exact (h x List.mem_cons_self).1
theorem sortT_in (I : Inv X pins σ H s) {l : List PV} {xs : List V} {us : List Value} {w : PV} (t : Reps X.K B μ H l xs) (rv : Vals xs us) (e : sortT l = .ok w) :
    ∃ f n kl, ZRel X.K B μ H (zkey s.heap f) kl us ∧ (∀ v ∈ us, ZTup s.heap f v (zkey s.heap f v) ∧ (zkey s.heap f v).length = n) ∧ (0 < us.length → 0 < n) ∧ (kl.map (·.1)).Nodup ∧ w = .lst ((kl.mergeSort fun a b => leT a.1 b.1).map (·.2)) := by
  unfold sortT at e
  split at e
  · cases e
    rw [t.nil_inv] at rv
    cases rv
    exact ⟨false, 0, [], .nil, fun v hv => by simp at hv, fun z => by simp at z, List.nodup_nil, by simp⟩
  · split at e
    · rename_i k f hk
      split at e
      · rename_i kl hkl
        split at e
        · rename_i hc
          cases e
          obtain ⟨z1, z2⟩ := zrel_of I hkl t rv
          exact ⟨f, k.length, kl, z1, z2, fun _ => hc.1, hc.2, rfl⟩
        · cases e
      · cases e
    · cases e
/-- sorted(d), a dict with tuples as keys -/
theorem cl_sortN (hc : X.calm = true) (hu : X.A.units + 64 < cLine) (I : Inv X pins σ H s) (rl : Rel X.K B μ h H) {a : Addr} {l : List (NestedKey × PV)} {xs : List (NestedKey × Addr × Value)} {w : PV} {Q : VK} (e : H a = some (.ext (RawN X.K a xs))) (h2 : (a == sysModules) = false ∧ xs.length ≤ sizeLine)
    (h3 : xs.map (·.1) = l.map (·.1)) (h4 : ∀ x ∈ xs, Rep X.K B μ H (nkV x.1) (.ref x.2.1) ∧ x.1.depth ≤ 8) (es : sortT (l.map fun p => nkV p.1) = .ok w)
    (q : ∀ y μ' H', Step μ H μ' H' → Rel X.K B μ' h H' → Rep X.K B μ' H' w y → Q y H') : wpAny (model X.prog X.w) X.A (call (.builtin "sorted") [.ref a]) (EP X pins σ Q) X.xe s := by
  obtain ⟨o, en, ep, ho, hx, hdt, he⟩ := rawN_of I e
  have rp := keys_reps h3 h4
  have rv : Vals (xs.map fun x => V.ref x.2.1) (xs.map fun x => Value.ref x.2.1) := by
    have : ∀ ys : List (NestedKey × Addr × Value), Vals (ys.map fun x => V.ref x.2.1) (ys.map fun x => Value.ref x.2.1) := fun ys => by
      induction ys with
      | nil => exact .nil
      | cons y ys ih => exact .cons rfl ih
    exact this xs
  have l1 : en.size = xs.length := by rw [← Array.length_toList, he, List.length_map]
  refine Calls.call_function_entry PyProof.Rows.kind_sorted PyProof.Rows.plain_sorted PyProof.Rows.entry_sorted (PyProof.Rows.args_sorted1 _) ?_
  unfold Builtin.«sorted»
  refine wpAny_bind (m := checkCount "sorted" 1 1 _) (wpAny_pure ?_)
  refine wpAny_bind (PySem.W.kdu_collect (A := X.A.in1) (kdl_raw h2.1 hx hdt) (I.ok.hd hc) ho (by omega) fun h' tk acc hk hacc => ?_)
  have ea : acc.toList = xs.map fun x => Value.ref x.2.1 := by
    have hl : acc.toList.length = xs.length := by rw [Array.length_toList, hacc.1]; exact l1
    apply List.ext_getElem?
    intro j
    rw [List.getElem?_map]
    cases hj : acc.toList[j]? with
    | none =>
      have h1 := List.getElem?_eq_none_iff.mp hj
      rw [List.getElem?_eq_none (by omega)]
      rfl
    | some v =>
      obtain ⟨en', hen, hv⟩ := hacc.2 j v (by rw [← Array.getElem?_toList]; exact hj)
      have qe : en.toList[j]? = some en' := by rw [Array.getElem?_toList]; exact hen
      rw [he, List.getElem?_map] at qe
      cases hb : xs[j]? with
      | none => rw [hb] at qe; cases qe
      | some b =>
        rw [hb] at qe
        cases qe
        rw [hv]
        rfl
  rw [ea]
  generalize hus : (xs.map fun x => Value.ref x.2.1) = us at rv
  have I1 : Inv X pins σ H { s with heap := h', toks := tk } := I.kept hk
  obtain ⟨f, n, kl, z1, z2, z3, z4, z5⟩ := sortT_in I1 rp rv es
  have hz : us.length ≤ sizeLine := by rw [← hus, List.length_map]; exact h2.2
  subst z5
  refine wpAny_bind (wpAny_newList ?_ (by simpa using hz))
  have hoL : (h'.push (seqObj "list" us.toArray 0)).get? h'.objs.size = some (seqObj "list" us.toArray 0) := Heap.get?_push_size _ rfl
  show wpAny _ _ _ _ _ { s with heap := h'.push (seqObj "list" us.toArray 0), toks := tk }
  refine wpAny_bind (wpAny_holding (wpAny_call_entry PyProof.Rows.slot_list_sort ⟨_, hoL, rfl⟩ PyProof.Rows.entry_list_sort
    (SrtO.list_sort_ord (s := { s with heap := h'.push (seqObj "list" us.toArray 0), toks := tk }) (swoT (zkey h' f)) hoL hz (fun hl2 => ?_) fun out hs hb => ⟨_, rfl, ?_⟩) (PyProof.Rows.args_list_sort _)))
  · have hu2 : X.A.in1.in1.units + 4 < cLine := by
      have e : X.A.in1.in1.units = X.A.units + 2 := rfl
      omega
    refine ztup_sortable hu2 (by omega) (z3 (by omega)) (fun v hm => (z2 v hm).1.keeps fun b o e _ => Heap.get?_push_of_some _ e) (fun v hm => (z2 v hm).2) (zinj z1 z4) fun o e => ?_
    have e' : some o = some (seqObj "list" us.toArray 0) := e.symm.trans hoL
    cases e'
    intro cc
    exact absurd (Value.type.inj cc) (by decide)
  · refine wpAny_pure ⟨_, rfl, ?_⟩
    obtain ⟨e', he'⟩ := PyProof.Rows.sortedHeap_at (vs := us) (out := out.toArray) hoL
    refine sortT_out (d := h'.objs.size) I1 rl z1 z4 q hz hs hb.perm (fun b u e => ?_) (Nat.le_refl _) ⟨e', he'⟩ tk
    have hb : b < h'.objs.size := Heap.lt_size e
    rw [PyProof.Rows.sortedHeap_old (Nat.ne_of_lt hb) (by rw [size_push']; exact Nat.lt_succ_of_lt hb)]
    exact Heap.get?_push_of_some _ e
/-- a pair in the heap -/
theorem pair_at (I : Inv X pins σ H s) {e : Int} {l : List PV} {ns : List Int} {x : V} {v : Value} (h : intsP l = some ns) (r : Rep X.K B μ H (.tup [.int e, .tup l]) x) (rv : RelV x v) : ∃ (a : Addr) (t : Tok) (b : Addr), (v = .ref a ∧ s.heap.IsTuple a #[.int e t, .ref b]) ∧ ITup s.heap b ns := by
  obtain ⟨a, vs, rfl, hs, t⟩ := Rep.tup_iff.mp r
  obtain rfl : v = .ref a := rv
  obtain ⟨v1, w1, rfl, r1, t1⟩ := t.cons_inv
  obtain ⟨v2, w2, rfl, r2, t2⟩ := t1.cons_inv
  cases t2
  obtain ⟨b, vs2, rfl, hs2, tt⟩ := Rep.tup_iff.mp r2
  rw [Rep.int_iff.mp r1] at hs
  obtain ⟨its, rvs, p, _⟩ := I.tuple hs.sq
  cases rvs with
  | cons q1 q2 =>
    cases q2 with
    | cons q2 q3 =>
      cases q3
      obtain ⟨tk, rfl⟩ := q1
      cases q2
      exact ⟨a, tk, b, ⟨rfl, p⟩, itup_of I h hs2.sq tt⟩
theorem op_cmp (hu : X.A.units + 64 < cLine) (op : CmpOp) : OpR X (compareOp op) (rC X.K op) := by
  have hu0 : X.A.units < cLine := by omega
  intro pins s σ H x y v u Q I rx ry hh
  obtain ⟨B, μ, h, a, b, w, rl, ra, rb, e, q⟩ := hh
  cases op with
  | Eq => exact eq_rule hu pins s σ H x y v u Q I rx ry ⟨B, μ, h, a, b, w, rl, ra, rb, e, q⟩
  | NotEq =>
    obtain ⟨w', e1, e2⟩ := bnd_eq_ok (show bnd (eqop a b h) (fun r => .ok (!r)) = .ok w from e)
    cases e2
    exact ne_rule hu pins s σ H x y v u Q I rx ry ⟨B, μ, h, a, b, w', rl, ra, rb, e1, q⟩
  | Is => exact is_rule pins s σ H x y v u Q I rx ry ⟨B, μ, h, a, b, w, rl, ra, rb, e, q⟩
  | IsNot =>
    obtain ⟨w', e1, e2⟩ := bnd_eq_ok (show bnd (isop a b) (fun r => .ok (!r)) = .ok w from e)
    cases e2
    exact isnot_rule pins s σ H x y v u Q I rx ry ⟨B, μ, h, a, b, w', rl, ra, rb, e1, q⟩
  | In => exact in_rule (by omega) pins s σ H x y v u Q I rx ry ⟨B, μ, h, a, b, w, rl, ra, rb, e, q⟩
  | NotIn =>
    obtain ⟨w', e1, e2⟩ := bnd_eq_ok (show bnd (inop a b h) (fun r => .ok (!r)) = .ok w from e)
    cases e2
    exact notin_rule (by omega) pins s σ H x y v u Q I rx ry ⟨B, μ, h, a, b, w', rl, ra, rb, e1, q⟩
  | Lt => exact ord_rule op_lt (op_ltI hu0) pins s σ H x y v u Q I rx ry ⟨B, μ, h, a, b, w, rl, ra, rb, e, q⟩
  | LtE =>
    by_cases hn : ∃ e0 l0 e1 l1 ns ms, a = .tup [.int e0, .tup l0] ∧ b = .tup [.int e1, .tup l1] ∧ intsP l0 = some ns ∧ intsP l1 = some ms
    · obtain ⟨e0, l0, e1, l1, ns, ms, rfl, rfl, h0, h1⟩ := hn
      have ew : w = (if e0 = e1 then lexC (fun a b => decide (a ≤ b)) (fun a b => decide (a ≤ b)) ns ms else decide (e0 ≤ e1)) := by
        simp [cmpop, intsP, leN, h0, h1] at e
        exact e.symm
      subst ew
      obtain ⟨a1, t1, b1, p1, q1⟩ := pair_at I h0 ra rx
      obtain ⟨a2, t2, b2, p2, q2⟩ := pair_at I h1 rb ry
      obtain ⟨rfl, p1⟩ := p1
      obtain ⟨rfl, p2⟩ := p2
      have R := pair_le (A := X.A) p1 p2 q1 q2 (by omega)
      have z : wpAny (model X.prog X.w) X.A (richCompare .LtE (.ref a1) (.ref a2)) (EP X pins σ Q) X.xe s := R X.prog X.w X.xe (EP X pins σ Q) ⟨.bl _, H, I, rfl, q⟩
      exact z
    · refine ord_rule op_le (op_leI hu0) pins s σ H x y v u Q I rx ry ⟨B, μ, h, a, b, w, rl, ra, rb, ?_, q⟩
      unfold cmpop at e
      simp only at e
      split at e
      · exact e
      · split at e
        · rename_i g1 g2
          first
          | exact e
          | (simp only [g1, g2]; exact e)
        · exfalso
          unfold leN at e
          split at e
          · split at e
            · rename_i g1 g2
              exact hn ⟨_, _, _, _, _, _, rfl, rfl, g1, g2⟩
            · cases e
          · cases e
      · cases e
  | Gt => exact ord_rule op_gt (op_gtI hu0) pins s σ H x y v u Q I rx ry ⟨B, μ, h, a, b, w, rl, ra, rb, e, q⟩
  | GtE => exact ord_rule op_ge (op_geI hu0) pins s σ H x y v u Q I rx ry ⟨B, μ, h, a, b, w, rl, ra, rb, e, q⟩
end
end Rg

namespace Rg
open PySem PySem.Spec PyProof.Rows L2
theorem ITup.holds {h : Heap} {b : Addr} {x y : Int} (t : ITup h b [x, y]) : PySem.W.Holds h (.ref b) ((x, y) : Int × Int) := by
  obtain ⟨o, its, n, h1, h2, h3, h4⟩ := t
  generalize hl : its.toList = l at h4
  cases h4 with
  | cons _ t1 q =>
    cases q with
    | cons _ t2 q =>
      cases q
      exact ⟨_, Reads.tuple h1 h2 h3 (by rw [hl]; exact .cons (.int x t1) (.cons (.int y t2) .nil))⟩
theorem ITup.of_holds {h : Heap} {b : Addr} {p : Int × Int} (t : PySem.W.Holds h (.ref b) p) : ITup h b [p.1, p.2] := by
  obtain ⟨as, r⟩ := t
  have r' : Reads h (.ref b) (.tuple [.int p.1, .int p.2]) as := r
  cases r' with
  | @tuple _ o vs n _ _ h1 h2 h3 q =>
    refine ⟨o, vs, n, h1, h2, h3, ?_⟩
    generalize vs.toList = l at q
    cases q with
    | cons r1 q =>
      cases q with
      | cons r2 q =>
        cases q
        cases r1
        cases r2
        exact .cons _ _ (.cons _ _ .nil)
theorem maxPr_of (p : Int × Int) (r : List (Int × Int)) : maxPr p r = PySem.W.maxOf p r := by
  induction r generalizing p with
  | nil => rfl
  | cons q r ih =>
    rw [maxPr, ih]
    show _ = List.foldl _ _ _
    rw [List.foldl_cons]
    rfl
section
variable {X : Cx} {B μ : List Addr} {h : MH} {H : Hp} {pins : List (Addr × Obj)} {σ : L2.St} {s : Shared}
theorem prs_hold (I : Inv X pins σ H s) : ∀ {l : List PV} {ps : List (Int × Int)} {xs : List V} {us : List Value}, prsP l = some ps → Reps X.K B μ H l xs → Vals xs us →
    PySem.W.HoldAll s.heap us ps ∧ l = ps.map (fun p => PV.tup [.int p.1, .int p.2]) ∧ ∀ (i : Nat) (u : Value), us[i]? = some u → ∃ (v : V) (p : Int × Int), RelV v u ∧ Rep X.K B μ H (.tup [.int p.1, .int p.2]) v ∧ PySem.W.Holds s.heap u p
  | [], ps, xs, us, e, t, rv => by
    simp only [prsP, Option.some.injEq] at e
    subst e
    rw [t.nil_inv] at rv
    cases rv
    exact ⟨⟨_, .nil⟩, rfl, fun i u z => by simp at z⟩
  | x :: l, ps, xs, us, e, t, rv => by
    unfold prsP at e
    split at e
    · rename_i e0; cases e0
    · rename_i a b r e0
      injection e0 with e1 e2
      subst e1 e2
      split at e
      · rename_i ps' he
        cases e
        obtain ⟨v, w, rfl, r1, t1⟩ := t.cons_inv
        cases rv with
        | cons q1 q2 =>
          rename_i u us
          obtain ⟨⟨as, ih1⟩, ih2, ih3⟩ := prs_hold I he t1 q2
          obtain ⟨ad, vs, ev, hs, tt⟩ := Rep.tup_iff.mp r1
          subst ev
          obtain rfl : u = .ref ad := q1
          have it := itup_of I (l := [.int a, .int b]) (ns := [a, b]) rfl hs.sq tt
          have hh := it.holds
          obtain ⟨as1, hr⟩ := hh
          refine ⟨⟨_, .cons hr ih1⟩, by rw [ih2]; rfl, fun i u z => ?_⟩
          cases i with
          | zero =>
            simp only [List.getElem?_cons_zero, Option.some.injEq] at z
            subst z
            exact ⟨.ref ad, (a, b), rfl, r1, ⟨as1, hr⟩⟩
          | succ i =>
            simp only [List.getElem?_cons_succ] at z
            exact ih3 i u z
      · cases e
    · cases e
/-- max(l), a list of pairs -/
theorem cl_maxP (hc : X.calm = true) (hu : X.A.units + 64 < cLine) (I : Inv X pins σ H s) {a : Addr} {l : List PV} {xs : List V} {p : Int × Int} {ps : List (Int × Int)} {Q : VK} (hs : SqL X.K H a xs) (t : Reps X.K B μ H l xs) (e : prsP l = some (p :: ps))
    (q : ∀ y, Rep X.K B μ H (.tup [.int (maxPr p ps).1, .int (maxPr p ps).2]) y → Q y H) : wpAny (model X.prog X.w) X.A (call (.builtin "max") [.ref a]) (EP X pins σ Q) X.xe s := by
  obtain ⟨its, rv, hl, hz⟩ := I.list hs
  obtain ⟨h1, _, h3⟩ := prs_hold I e t rv
  refine PySem.W.max_list_datum (I.ok.hd hc) hl.isList (x := p) (xs := ps) (by simpa using h1) (by show X.A.units + 1 + (max 0 0 + 1) < cLine; omega) fun i v h' tk hi hh kp => ?_
  obtain ⟨v', p', r1, r2, r3⟩ := h3 i v (by simpa using hi)
  obtain ⟨ad, vs, rfl, _, _⟩ := Rep.tup_iff.mp r2
  obtain rfl : v = .ref ad := r1
  have e1 := (ITup.of_holds (r3.keeps kp)).inj (ITup.of_holds hh)
  rw [← maxPr_of] at e1
  simp only [List.cons.injEq, and_true] at e1
  refine ⟨.ref ad, H, I.kept kp, rfl, q _ ?_⟩
  rw [← e1.1, ← e1.2]
  exact r2
end
end Rg

namespace Rg
open PySem PySem.Spec PyProof.Rows L2
section
variable {K : PySem.W.Frag} [Wd K] {B μ : List Addr} {h : MH} {H : Hp}
theorem Reps.atI {l : List PV} {vs : List V} {i : Int} {p : PV} (t : Reps K B μ H l vs) (e : L2.atI l i = some p) : ∃ v, L2.atI vs i = some v ∧ Rep K B μ H p v := by
  unfold L2.atI at e ⊢
  rw [← t.length]
  cases q : ixN l.length i with
  | none => rw [q] at e; cases e
  | some j =>
    rw [q] at e
    exact t.get (i := j) e
theorem Reps.cut {l : List PV} {vs : List V} (t : Reps K B μ H l vs) (lo hi : Option Int) : Reps K B μ H (cutP l lo hi) (cutV vs lo hi) := by
  unfold cutP cutV
  rw [t.length]
  exact (t.drop _).take _
theorem truth_ok (r : Rel K B μ h H) {v : PV} {x : V} {k : Bool} (rp : Rep K B μ H v x) (e : truth v h = some k) : TruV K x H k := by
  have hb : big ≤ sizeLine := big_le
  cases v with
  | non => simp only [truth, Option.some.injEq] at e; subst e; rw [Rep.non_iff.mp rp]; rfl
  | bl b => simp only [truth, Option.some.injEq] at e; subst e; rw [Rep.bl_iff.mp rp]; rfl
  | int b => simp only [truth, Option.some.injEq] at e; subst e; rw [Rep.int_iff.mp rp]; rfl
  | str s =>
    simp only [truth, Option.some.injEq] at e; subst e
    obtain ⟨e1, e2, _⟩ := Rep.str_iff.mp rp
    rw [e1]; exact ⟨by omega, rfl⟩
  | tup l =>
    simp only [truth, Option.some.injEq] at e; subst e
    obtain ⟨a, vs, rfl, hs, t⟩ := Rep.tup_iff.mp rp
    refine .inr (.inl ⟨vs, hs.sq, ?_⟩)
    have := t.length
    cases l <;> cases vs <;> first | rfl | (simp at this)
  | lst l =>
    simp only [truth, Option.some.injEq] at e; subst e
    obtain ⟨a, vs, rfl, hs, t⟩ := Rep.lst_iff.mp rp
    refine .inl ⟨vs, hs.sq, ?_⟩
    have := t.length
    cases l <;> cases vs <;> first | rfl | (simp at this)
  | ref n =>
    cases hc : h[n]? with
    | none => simp only [truth, hc] at e; cases e
    | some c =>
      cases c with
      | dct _ => simp only [truth, hc] at e; cases e
      | fz _ => simp only [truth, hc] at e; cases e
      | fzN _ => simp only [truth, hc] at e; cases e
      | dcT _ => simp only [truth, hc] at e; cases e
      | obj _ _ => simp only [truth, hc] at e; cases e
      | dcN _ => simp only [truth, hc] at e; cases e
      | lst l =>
        simp only [truth, hc, Option.some.injEq] at e; subst e
        obtain ⟨a, vs, ha, h1, t⟩ := r.lst hc
        obtain ⟨b, rfl, hb⟩ := Rep.ref_iff.mp rp
        rw [ha] at hb; cases hb
        refine .inl ⟨vs, .inl (.inl h1), ?_⟩
        have := t.length
        cases l <;> cases vs <;> first | rfl | (simp at this)
theorem tru_some {v : PV} {h : MH} {k : Bool} (e : truR v h = .ok k) : truth v h = some k := by
  unfold truR at e
  split at e
  · rename_i b hb; cases e; exact hb
  · cases e
theorem truR_ex {v : PV} {h : MH} {c : Str} {h' : MH} : truR v h ≠ .error (.exc c h') := by
  unfold truR
  split
  · exact fun z => by cases z
  · exact fun z => by cases z
end
section
variable {X : Cx}
/-- a[b] -/
theorem ix_rule (hu : X.A.units + 64 < cLine) : IxR X (rB X.K idxop) := by
  intro value slice pins s σ H x y v u Q I rx ry hh hs
  obtain ⟨B, μ, h, a, b, w, rl, ra, rb, e, q⟩ := hh
  have hb : big ≤ sizeLine := big_le
  unfold idxop at e
  split at e
  · rename_i l hl
    split at e
    · rename_i k hk
      split at e
      · rename_i z hz
        cases e
        obtain ⟨n, ad, kvs, _, rfl, _, _, hH, h2, h3⟩ := dview_ok rl ra hl
        obtain rfl : v = Value.ref ad := rx
        have kx := keyP_V rb hk
        subst kx
        rcases dct_val k h2 h3 with ⟨z1, _⟩ | ⟨p, v', z1, z2, z3⟩
        · rw [z1] at hz; cases hz
        · rw [z1] at hz; cases hz
          have g : DGet H ad (L2.kV k) (some v') := z2 ▸ dget_r hH
          exact tail_any (dict_typeIs I g) PySem.F.slot_dict_getitem.lookup (d_getItem (by omega) I g ry fun w' s' I' rw' => ⟨v', H, I', rw', q v' μ H .refl rl z3⟩) hs
      · cases e
    · cases e
  split at e
  · rename_i l hl
    split at e
    · rename_i k hk
      split at e
      · rename_i z hz
        cases e
        obtain ⟨n, ad, xs, vs, _, rfl, _, _, hH, h2, h3, h4, h5, h6⟩ := nview_ok rl ra hl
        obtain rfl : v = Value.ref ad := rx
        obtain ⟨b', ex, eu, kk⟩ := nk_key I rb hk ry
        subst ex eu
        have dd := dictN I hH (by rw [h3.1]; exact h3.2) h4
        rcases n_at (k := k) h3.1 h5 h6 with ⟨z1, _⟩ | ⟨p, v', q', z1, z2, z3, z4⟩
        · rw [z1] at hz; cases hz
        · rw [z1] at hz; cases hz
          exact tail_any dd.typeIs PySem.F.slot_dict_getitem.lookup (n_getItem hu I dd kk z2 z3 fun w' s' I' rw' => ⟨v', H, I', rw', q v' μ H .refl rl z4⟩) hs
      · cases e
    · cases e
  unfold idxopS at e
  split at e
  · rename_i i
    rw [Rep.int_iff.mp rb] at ry
    split at e
    · rename_i st _ _
      obtain ⟨e1, e2, e3⟩ := Rep.str_iff.mp ra
      rw [e1] at rx
      split at e
      · rename_i c hc
        cases e
        refine ix_str value slice pins s σ H _ _ v u Q I rx ry ⟨st, i, c, rfl, rfl, by omega, hc, q _ μ H .refl rl (Rep.str_iff.mpr ⟨rfl, by show 1 ≤ big; decide, strOk_one e3 ?_⟩)⟩ hs
        obtain ⟨j, _, hj, _⟩ := atI_get hc
        exact List.mem_of_getElem? hj
      · cases e
    · split at e
      · rename_i l hl
        obtain ⟨p, vs, ex, hsq, t⟩ := sview_ok rl ra hl
        rw [ex] at rx
        split at e
        · rename_i z hz
          cases e
          obtain ⟨zv, hzv, rz⟩ := t.atI hz
          have qq := q zv μ H .refl rl rz
          rcases hsq with hsq | hsq
          · exact ix_list value slice pins s σ H _ _ v u Q I rx ry ⟨p, vs, i, zv, rfl, rfl, hsq, hzv, qq⟩ hs
          · exact ix_tup value slice pins s σ H _ _ v u Q I rx ry ⟨p, vs, i, zv, rfl, rfl, hsq, hzv, qq⟩ hs
        · cases e
      · cases e
  · cases e
/-- a[lo:hi] -/
theorem sl_rule : SlR X (fun x lo hi H Q => ∃ B μ h a w, Rel X.K B μ h H ∧ Rep X.K B μ H a x ∧ slcop a lo hi h = .ok w ∧ ∀ z μ' H', Step μ H μ' H' → Rel X.K B μ' h H' → Rep X.K B μ' H' w z → Q z H') := by
  intro pins s σ H x v vl vu lo hi sl Q I rx hs pl pu hh
  obtain ⟨B, μ, h, a, w, rl, ra, e, q⟩ := hh
  have hb : big ≤ sizeLine := big_le
  unfold slcop at e
  split at e
  · rename_i st
    cases e
    obtain ⟨e1, e2, e3⟩ := Rep.str_iff.mp ra
    rw [e1] at rx
    exact sl_str pins s σ H _ v vl vu lo hi sl Q I rx hs pl pu ⟨st, rfl, by omega, q _ μ H .refl rl (Rep.str_iff.mpr ⟨rfl, Nat.le_trans (cutS_length _ _ _) e2, strOk_cut e3 _ _⟩)⟩
  · rename_i l
    cases e
    obtain ⟨p, vs, ex, hsx, t⟩ := Rep.tup_iff.mp ra
    rw [ex] at rx
    refine sl_tupA pins s σ H _ v vl vu lo hi sl Q I rx hs pl pu ⟨p, vs, rfl, hsx.sq, fun hw => ?_, fun _ p hp => ?_⟩
    · refine q _ μ H .refl rl (Rep.tup_iff.mpr ⟨_, vs, rfl, hsx, ?_⟩)
      have := t.cut lo hi
      unfold cutV at this
      rw [hw.1, hw.2, List.drop_zero, Nat.sub_zero, List.take_length] at this
      exact this
    · exact q _ μ _ (.new hp) (rl.new hp) (.newTup rl hp (t.cut lo hi))
  · split at e
    · rename_i l hl
      cases e
      obtain ⟨p, vs, ex, hrd, t⟩ := lview_ok rl ra hl
      rw [ex] at rx
      exact sl_list pins s σ H _ v vl vu lo hi sl Q I rx hs pl pu ⟨p, vs, rfl, hrd, fun p hp => q _ μ _ (.new hp) (rl.new hp) (.newLst rl hp (t.cut lo hi))⟩
    · cases e

theorem maxI_ge : ∀ (n : Int) (ns : List Int), ∀ y ∈ n :: ns, y ≤ maxI n ns
  | n, [], y, h => by simp at h; subst h; exact Int.le_refl _
  | n, m :: r, y, h => by
    have ih := maxI_ge (if n < m then m else n) r
    simp only [List.mem_cons] at h
    simp only [maxI]
    rcases h with rfl | rfl | h
    · refine Int.le_trans ?_ (ih _ List.mem_cons_self)
      split <;> omega
    · refine Int.le_trans ?_ (ih _ List.mem_cons_self)
      split <;> omega
    · exact ih y (List.mem_cons_of_mem _ h)
theorem maxI_mem : ∀ (n : Int) (ns : List Int), maxI n ns ∈ n :: ns
  | n, [] => by simp [maxI]
  | n, m :: r => by
    have ih := maxI_mem (if n < m then m else n) r
    simp only [maxI]
    rcases List.mem_cons.mp ih with e | e
    · rw [e]
      split <;> simp
    · exact List.mem_cons_of_mem _ (List.mem_cons_of_mem _ e)
def bfName : Bf → Str
  | .len => "len" | .abs => "abs" | .max2 => "max" | .maxL => "max" | .min2 => "min" | .sum => "sum" | .any => "any" | .all => "all" | .intOf => "int" | .strOf => "str" | .list => "list" | .tuple => "tuple" | .sorted => "sorted"
def bfVal : Bf → Value
  | .len => .builtin "len" | .abs => .builtin "abs" | .max2 => .builtin "max" | .maxL => .builtin "max" | .min2 => .builtin "min" | .sum => .builtin "sum" | .any => .builtin "any" | .all => .builtin "all" | .intOf => .type "int" | .strOf => .type "str" | .list => .type "list" | .tuple => .type "tuple" | .sorted => .builtin "sorted"
theorem bf_boot (f : Bf) : bootBuiltins (bfName f) = some (bfVal f) := by
  cases f
  · exact PyProof.Rows.bootS_len
  · exact PyProof.Rows.boot_abs
  · exact PyProof.Rows.boot_max
  · exact PyProof.Rows.boot_min
  · exact PyProof.Rows.boot_sum
  · exact PyProof.Rows.boot_any
  · exact PyProof.Rows.boot_all
  · exact PyProof.Rows.boot_int
  · exact PyProof.Rows.boot_str
  · exact PyProof.Rows.boot_list
  · exact PyProof.Rows.boot_tuple
  · exact PyProof.Rows.boot_sorted
  · exact PyProof.Rows.boot_max
def rCl (K : PySem.W.Frag) [Wd K] (f : List PV → MH → R PV) : List V → Hp → VK → Prop := fun xs H Q => ∃ B μ h vs w, Rel K B μ h H ∧ Reps K B μ H vs xs ∧ f vs h = .ok w ∧ ∀ z μ' H', Step μ H μ' H' → Rel K B μ' h H' → Rep K B μ' H' w z → Q z H'
theorem Reps.one {K : PySem.W.Frag} [Wd K] {B μ : List Addr} {H : Hp} {p : PV} {xs : List V} (t : Reps K B μ H [p] xs) : ∃ x, xs = [x] ∧ Rep K B μ H p x := by
  obtain ⟨x, r, rfl, h1, t⟩ := t.cons_inv
  rw [t.nil_inv]; exact ⟨x, rfl, h1⟩
theorem Reps.two {K : PySem.W.Frag} [Wd K] {B μ : List Addr} {H : Hp} {p q : PV} {xs : List V} (t : Reps K B μ H [p, q] xs) : ∃ x y, xs = [x, y] ∧ Rep K B μ H p x ∧ Rep K B μ H q y := by
  obtain ⟨x, r, rfl, h1, t⟩ := t.cons_inv
  obtain ⟨y, rfl, h2⟩ := t.one
  exact ⟨x, y, rfl, h1, h2⟩
theorem strOk_str (s : String) : PyData.strOk (Str.ofString s) = true := by
  rw [strOk_mem]
  intro c hc
  have e : (Str.ofString s).cps.toList = s.toList.map Char.toNat := by
    show (cpsOfBytes 0 0 s.toByteArray.data.toList).toArray.toList = _
    rw [List.toList_toArray, cpsOfBytes_string]
  rw [e] at hc
  obtain ⟨ch, _, rfl⟩ := List.mem_map.mp hc
  have h := ch.valid
  simp only [UInt32.isValidChar, Nat.isValidChar] at h
  show ch.val.toNat < _
  omega
theorem keys_ints : ∀ {ks : List L2.Key}, (ks.all (·.isLeft)) = true → ∃ ns : List Int, ks = ns.map Sum.inl
  | [], _ => ⟨[], rfl⟩
  | .inl i :: ks, h => by
    rw [List.all_cons, Bool.and_eq_true] at h
    obtain ⟨ns, e⟩ := keys_ints h.2
    exact ⟨i :: ns, by rw [e]; rfl⟩
  | .inr _ :: ks, h => by rw [List.all_cons, Bool.and_eq_true] at h; cases h.1
theorem keys_strs : ∀ {ks : List L2.Key}, (ks.all (·.isRight)) = true → ∃ ns : List Str, ks = ns.map Sum.inr
  | [], _ => ⟨[], rfl⟩
  | .inr i :: ks, h => by
    rw [List.all_cons, Bool.and_eq_true] at h
    obtain ⟨ns, e⟩ := keys_strs h.2
    exact ⟨i :: ns, by rw [e]; rfl⟩
  | .inl _ :: ks, h => by rw [List.all_cons, Bool.and_eq_true] at h; cases h.1
theorem ints_uniq {ns ns' : List Int} (h1 : ns'.Perm ns) (h2 : ns'.Pairwise (· ≤ ·)) : ns'.map Sum.inl = ((ns.map Sum.inl : List L2.Key)).mergeSort keyLe :=
  keys_uniq (h1.map _) (List.pairwise_map.mpr (h2.imp fun {a b} h => by simp [keyLe, keyLt]; omega))
theorem strs_uniq {ns ns' : List Str} (h1 : ns'.Perm ns) (h2 : sortedS ns' = true) : ns'.map Sum.inr = ((ns.map Sum.inr : List L2.Key)).mergeSort keyLe :=
  keys_uniq (h1.map _) (List.pairwise_map.mpr (sortedS_pair h2))
theorem keyV_int (ns : List Int) : (ns.map Sum.inl : List L2.Key).map keyV = ns.map PV.int := by rw [List.map_map]; rfl
theorem keyV_str (ns : List Str) : (ns.map Sum.inr : List L2.Key).map keyV = ns.map PV.str := by rw [List.map_map]; rfl
theorem kV_int (ns : List Int) : (ns.map Sum.inl : List L2.Key).map kV = ns.map V.int := by rw [List.map_map]; rfl
theorem kV_str (ns : List Str) : (ns.map Sum.inr : List L2.Key).map kV = ns.map V.str := by rw [List.map_map]; rfl
theorem reps_int (K : PySem.W.Frag) [Wd K] (B μ : List Addr) (H : Hp) : ∀ ns : List Int, Reps K B μ H (ns.map PV.int) (ns.map V.int)
  | [] => .nil
  | n :: ns => .cons .int (reps_int K B μ H ns)
theorem reps_strG (K : PySem.W.Frag) [Wd K] (B μ : List Addr) (H : Hp) : ∀ {ns : List Str}, (∀ s ∈ ns, StrGood s) → Reps K B μ H (ns.map PV.str) (ns.map V.str)
  | [], _ => .nil
  | n :: ns, h => .cons (Rep.str_iff.mpr ⟨rfl, h n List.mem_cons_self⟩) (reps_strG K B μ H fun s hs => h s (List.mem_cons_of_mem _ hs))
theorem reps_strI {K : PySem.W.Frag} [Wd K] {B μ : List Addr} {H : Hp} : ∀ {ns : List Str} {xs : List V}, Reps K B μ H (ns.map PV.str) xs → ∀ s ∈ ns, StrGood s
  | [], _, _, s, hs => by simp at hs
  | n :: ns, xs, t, s, hs => by
    obtain ⟨v, r, rfl, h1, t⟩ := t.cons_inv
    rcases List.mem_cons.mp hs with rfl | hs
    · exact (Rep.str_iff.mp h1).2
    · exact reps_strI t s hs
theorem reps_keyV {K : PySem.W.Frag} [Wd K] {B μ : List Addr} {H : Hp} : ∀ {l : List L2.Key}, KeysGood l → Reps K B μ H (l.map keyV) (l.map L2.kV)
  | [], _ => .nil
  | .inl i :: l, g => .cons .int (reps_keyV fun s hs => g s (List.mem_cons_of_mem _ hs))
  | .inr s :: l, g => .cons (Rep.str_iff.mpr ⟨rfl, g s List.mem_cons_self⟩) (reps_keyV fun s hs => g s (List.mem_cons_of_mem _ hs))
theorem cl_sorted (hc : X.calm = true) (hu : X.A.units + 64 < cLine) {pins : List (Addr × Obj)} {s : Shared} {σ : L2.St} {H : Hp} {B μ : List Addr} {h : MH} {v w : PV} {x : V} {us : List Value} {Q : VK} (I : Inv X pins σ H s) (rv : Vals [x] us) (rl : Rel X.K B μ h H) (r1 : Rep X.K B μ H v x) (e : sortop v h = .ok w)
    (q : ∀ z μ' H', Step μ H μ' H' → Rel X.K B μ' h H' → Rep X.K B μ' H' w z → Q z H') : wpAny (model X.prog X.w) X.A (call (.builtin "sorted") us) (EP X pins σ Q) X.xe s := by
  have hb : big ≤ sizeLine := big_le
  unfold sortop at e
  split at e
  · rename_i l hl
    split at e
    · rename_i hk
      cases e
      obtain ⟨n, ad, kvs, _, rfl, _, _, hH, h2, h3⟩ := dview_ok rl r1 hl
      obtain ⟨hk, h64⟩ := hk
      simp only [oneKind, Bool.or_eq_true] at hk
      have hlen := dct_len h2
      rcases hk with hk | hk
      · obtain ⟨ns, en⟩ := keys_ints hk
        have l64 : ns.length < 64 := by have := congrArg List.length en; simp at this; omega
        refine call_sortedDI hc pins s σ H _ us Q I rv ⟨ad, kvs, ns, rfl, hH, by rw [h2, en], l64, fun ys p hp hs np => ?_⟩
        have u := ints_uniq hp hs
        refine q _ μ _ (.new np) (rl.new np) ?_
        rw [en, ← u, keyV_int]
        exact .newLst rl np (reps_int ..)
      · obtain ⟨ns, en⟩ := keys_strs hk
        have l64 : ns.length < 64 := by have := congrArg List.length en; simp at this; omega
        refine call_sortedD hc pins s σ H _ us Q I rv ⟨ad, kvs, ns, rfl, hH, by rw [h2, en], l64, fun ys p hp hs np => ?_⟩
        have u := strs_uniq hp hs
        refine q _ μ _ (.new np) (rl.new np) ?_
        rw [en, ← u, keyV_str]
        refine .newLst rl np (reps_strG _ _ _ _ fun s hs => ?_)
        have g := dview_good rl hl
        rw [en] at g
        exact g s (List.mem_map.mpr ⟨s, hp.mem_iff.mp hs, rfl⟩)
    · cases e
  · split at e
    · rename_i l hl
      obtain ⟨p, ys, ex, hs, t⟩ := lview_ok rl r1 hl
      subst ex
      split at e
      · rename_i ks hks
        split at e
        · rename_i hk
          cases e
          obtain ⟨hk, h64⟩ := hk
          simp only [oneKind, Bool.or_eq_true] at hk
          rw [keysP_map hks] at t
          have ey := reps_keys t
          subst ey
          rcases hk with hk | hk
          · obtain ⟨ns, rfl⟩ := keys_ints hk
            rw [kV_int] at hs
            refine cr_sortedI pins s σ H _ us Q I rv ⟨p, ns, rfl, hs, fun ys' p' hp hs' np => ?_⟩
            refine q _ μ _ (.new np) (rl.new np) ?_
            rw [← ints_uniq hp hs', keyV_int]
            exact .newLst rl np (reps_int ..)
          · obtain ⟨ns, rfl⟩ := keys_strs hk
            rw [kV_str] at hs
            rw [keyV_str] at t
            refine cr_sortedS pins s σ H _ us Q I rv ⟨p, ns, rfl, hs, by simpa using h64, fun ys' p' hp hs' np => ?_⟩
            refine q _ μ _ (.new np) (rl.new np) ?_
            rw [← strs_uniq hp hs', keyV_str]
            exact .newLst rl np (reps_strG _ _ _ _ fun s hs => reps_strI t s (hp.mem_iff.mp hs))
        · cases e
      · rename_i hk0
        split at e
        · rename_i kl hkl
          split at e
          · rename_i hk
            cases e
            obtain ⟨hk, nd⟩ := hk
            obtain ⟨kr, hx⟩ := tupKeys_rel I hkl t
            have hkeys := kr.keys
            have hc2 : ∃ c, ∀ x ∈ ys, (keyAt X.K H x).isLeft = c := by
              have mk : ∀ x ∈ ys, keyAt X.K H x ∈ kl.map (·.1) := fun x hx => by rw [← hkeys]; exact List.mem_map.mpr ⟨x, hx, rfl⟩
              simp only [oneKind, Bool.or_eq_true, List.all_eq_true] at hk
              rcases hk with hk | hk
              · exact ⟨true, fun x hx => hk _ (mk x hx)⟩
              · exact ⟨false, fun x hx => by
                  have := hk _ (mk x hx)
                  cases hq : keyAt X.K H x with
                  | inl i => rw [hq] at this; cases this
                  | inr i => rfl⟩
            obtain ⟨c, hc2⟩ := hc2
            have hinj : ∀ x ∈ ys, ∀ y ∈ ys, keyAt X.K H x = keyAt X.K H y → x = y := by
              have nd2 : (ys.map (keyAt X.K H)).Nodup := by rw [hkeys]; exact nd
              intro x hx y hy exy
              obtain ⟨i, hi, ei⟩ := List.mem_iff_getElem.mp hx
              obtain ⟨j, hj, ej⟩ := List.mem_iff_getElem.mp hy
              have : i = j := by
                refine (List.getElem_inj (h₀ := by simpa using hi) (h₁ := by simpa using hj) nd2).mp ?_
                simp only [List.getElem_map, ei, ej, exy]
              subst this
              rw [← ei, ← ej]
            refine cr_sortK pins s σ H _ us Q I rv ⟨p, ys, keyAt X.K H, c, rfl, hs, hx, hc2, hinj, fun ys' p' hp hs' np => ?_⟩
            obtain ⟨m, hm, kr'⟩ := KRel.perm hp kr
            refine q _ μ _ (.new np) (rl.new np) ?_
            rw [← pairs_uniq hm (kr'.sorted hs') nd]
            exact .newLst rl np kr'.reps
          · obtain ⟨u1, rfl, ru1⟩ := vals1 rv
            obtain rfl : u1 = Value.ref p := ru1
            exact cl_sortT hu I rl hs t e (by intro z; subst z; simp [keysP] at hk0) q
        · obtain ⟨u1, rfl, ru1⟩ := vals1 rv
          obtain rfl : u1 = Value.ref p := ru1
          exact cl_sortT hu I rl hs t e (by intro z; subst z; simp [keysP] at hk0) q
    · split at e
      · rename_i l hl
        obtain ⟨n, ad, xs, vs, _, rfl, _, _, hH, h2, h3, h4, h5, h6⟩ := nview_ok rl r1 hl
        obtain ⟨u1, rfl, ru1⟩ := vals1 rv
        obtain rfl : u1 = Value.ref ad := ru1
        exact cl_sortN hc hu I rl hH h2 h3.1 h4 e q
      · cases e
theorem cl_rule (hc : X.calm = true) (hu : X.A.units + 64 < cLine) (f : Bf) : CallR X (bfVal f) (rCl X.K (bltop f)) := by
  intro pins s σ H xs us Q I rv hh
  obtain ⟨B, μ, h, vs, w, rl, rp, e, q⟩ := hh
  have hb : big ≤ sizeLine := big_le
  cases f with
  | len =>
    simp only [bltop] at e
    split at e
    · cases e
      obtain ⟨x, rfl, r1⟩ := rp.one
      obtain ⟨e1, e2, e3⟩ := Rep.str_iff.mp r1
      rw [e1] at rv
      exact call_len_str pins s σ H _ us Q I rv ⟨_, rfl, by omega, q _ μ H .refl rl .int⟩
    · obtain ⟨x, rfl, r1⟩ := rp.one
      split at e
      · rename_i l hl
        cases e
        obtain ⟨p, ys, ex, hsq, t⟩ := sview_ok rl r1 hl
        rw [ex] at rv
        exact call_len_seq pins s σ H _ us Q I rv ⟨p, ys, rfl, hsq, by rw [← t.length]; exact q _ μ H .refl rl .int⟩
      · split at e
        · rename_i l hl
          cases e
          obtain ⟨n, ad, kvs, _, rfl, _, _, hH, h2, h3⟩ := dview0_ok rl r1 hl
          exact call_lenD pins s σ H _ us Q I rv ⟨ad, kvs, rfl, hH, by rw [dct_len h2]; exact q _ μ H .refl rl .int⟩
        · cases e
    · cases e
  | abs =>
    simp only [bltop] at e
    split at e
    · cases e
      obtain ⟨x, rfl, r1⟩ := rp.one
      rw [Rep.int_iff.mp r1] at rv
      exact call_abs pins s σ H _ us Q I rv ⟨_, rfl, q _ μ H .refl rl .int⟩
    · cases e
  | max2 =>
    simp only [bltop] at e
    split at e
    · cases e
      obtain ⟨x, y, rfl, r1, r2⟩ := rp.two
      rw [Rep.int_iff.mp r1, Rep.int_iff.mp r2] at rv
      exact call_max2 hc pins s σ H _ us Q I rv ⟨_, _, rfl, q _ μ H .refl rl .int⟩
    · cases e
  | min2 =>
    simp only [bltop] at e
    split at e
    · cases e
      obtain ⟨x, y, rfl, r1, r2⟩ := rp.two
      rw [Rep.int_iff.mp r1, Rep.int_iff.mp r2] at rv
      exact call_min2 hc pins s σ H _ us Q I rv ⟨_, _, rfl, q _ μ H .refl rl .int⟩
    · cases e
  | maxL =>
    simp only [bltop] at e
    split at e
    · obtain ⟨x, rfl, r1⟩ := rp.one
      split at e
      · rename_i l hl
        split at e
        · rename_i n ns hn
          cases e
          obtain ⟨p, ys, ex, hrd, t⟩ := lview_ok rl r1 hl
          rw [ex] at rv
          have z := Reps.all_int hn t
          subst z
          refine cr_max hc pins s σ H _ us Q I rv ⟨p, n :: ns, rfl, hrd, by simp, fun m h1 h2 => ?_⟩
          have e1 := maxI_mem n ns
          have e2 := maxI_ge n ns
          have : m = maxI n ns := Int.le_antisymm (e2 m h1) (h2 _ e1)
          subst this
          exact q _ μ H .refl rl .int
        · split at e
          · rename_i p ps hp
            cases e
            obtain ⟨ad, ys, ex, hrd, t⟩ := lview_ok rl r1 hl
            rw [ex] at rv
            rw [Vals.ref1 rv]
            exact cl_maxP hc hu I hrd t hp fun y ry => q _ μ H .refl rl ry
          · cases e
      · cases e
    · cases e
  | sum =>
    simp only [bltop] at e
    split at e
    · obtain ⟨x, rfl, r1⟩ := rp.one
      split at e
      · rename_i l hl
        split at e
        · rename_i ns hn
          cases e
          obtain ⟨p, ys, ex, hrd, t⟩ := lview_ok rl r1 hl
          rw [ex] at rv
          have z := Reps.all_int hn t
          subst z
          exact cr_sum hc pins s σ H _ us Q I rv ⟨p, ns, rfl, hrd, q _ μ H .refl rl .int⟩
        · cases e
      · cases e
    · cases e
  | any =>
    simp only [bltop] at e
    split at e
    · obtain ⟨x, rfl, r1⟩ := rp.one
      split at e
      · rename_i l hl
        split at e
        · rename_i ns hn
          cases e
          obtain ⟨p, ys, ex, hrd, t⟩ := lview_ok rl r1 hl
          rw [ex] at rv
          have z := Reps.all_bl hn t
          subst z
          exact cr_any hc pins s σ H _ us Q I rv ⟨p, ns, rfl, hrd, q _ μ H .refl rl .bl⟩
        · cases e
      · cases e
    · cases e
  | all =>
    simp only [bltop] at e
    split at e
    · obtain ⟨x, rfl, r1⟩ := rp.one
      split at e
      · rename_i l hl
        split at e
        · rename_i ns hn
          cases e
          obtain ⟨p, ys, ex, hrd, t⟩ := lview_ok rl r1 hl
          rw [ex] at rv
          have z := Reps.all_bl hn t
          subst z
          exact cr_all hc pins s σ H _ us Q I rv ⟨p, ns, rfl, hrd, q _ μ H .refl rl .bl⟩
        · cases e
      · cases e
    · cases e
  | intOf =>
    simp only [bltop] at e
    split at e
    · cases e
      obtain ⟨x, rfl, r1⟩ := rp.one
      rw [Rep.int_iff.mp r1] at rv
      exact call_int1 pins s σ H _ us Q I rv (.inl ⟨_, rfl, q _ μ H .refl rl .int⟩)
    · cases e
      obtain ⟨x, rfl, r1⟩ := rp.one
      rw [Rep.bl_iff.mp r1] at rv
      exact call_int1 pins s σ H _ us Q I rv (.inr ⟨_, rfl, q _ μ H .refl rl .int⟩)
    · split at e
      · rename_i hz
        cases e
        obtain ⟨x, rfl, r1⟩ := rp.one
        rw [(Rep.str_iff.mp r1).1] at rv
        have ne : ∀ {l : List Nat}, l.isEmpty = false → l ≠ [] := fun h e => by rw [e] at h; cases h
        refine call_int_str pins s σ H _ us Q I rv ⟨_, _, rfl, PySem.intText_digits (fun c hc => ?_) (ne hz.2.1) (by omega), hz.1, q _ μ H .refl rl .int⟩
        have := List.all_eq_true.mp hz.2.2 c hc
        simpa using this
      · cases e
    · cases e
  | strOf =>
    simp only [bltop] at e
    split at e
    · split at e
      · rename_i hz
        cases e
        obtain ⟨x, rfl, r1⟩ := rp.one
        rw [Rep.int_iff.mp r1] at rv
        exact call_str_int pins s σ H _ us Q I rv ⟨_, rfl, hz.1, q _ μ H .refl rl (Rep.str_iff.mpr ⟨rfl, hz.2, strOk_str _⟩)⟩
      · cases e
    · cases e
      obtain ⟨x, rfl, r1⟩ := rp.one
      rw [(Rep.str_iff.mp r1).1] at rv
      exact SkE.call_str_str pins s σ H _ us Q I rv ⟨_, rfl, q _ μ H .refl rl (Rep.str_iff.mpr ⟨rfl, (Rep.str_iff.mp r1).2⟩)⟩
    · cases e
  | list =>
    simp only [bltop] at e
    split at e
    · obtain ⟨x, rfl, r1⟩ := rp.one
      split at e
      · rename_i l hl
        cases e
        obtain ⟨p, ys, ex, hsq, t⟩ := sview_ok rl r1 hl
        rw [ex] at rv
        exact call_list_of pins s σ H _ us Q I rv ⟨p, ys, rfl, hsq, fun p hp => q _ μ _ (.new hp) (rl.new hp) (.newLst rl hp t)⟩
      · split at e
        · rename_i l hl
          cases e
          obtain ⟨n, ad, kvs, _, rfl, _, _, hH, h2, h3⟩ := dview0_ok rl r1 hl
          have g := dview0_good rl hl
          refine call_list_dK hc pins s σ H _ us Q I rv ⟨ad, kvs, rfl, hH, fun p hp => q _ μ _ (.new hp) (rl.new hp) (.newLst rl hp ?_)⟩
          have e1 : (kvs.map fun kv => L2.kV kv.1) = (l.map (·.1)).map L2.kV := by rw [← h2, List.map_map]; rfl
          have e2 : (l.map fun p => keyV p.1) = (l.map (·.1)).map keyV := by rw [List.map_map]; rfl
          rw [e1, e2]
          exact reps_keyV g
        · cases e
    · cases e
  | tuple =>
    simp only [bltop] at e
    split at e
    · rename_i v
      obtain ⟨x, rfl, r1⟩ := rp.one
      split at e
      · rename_i l hl
        cases e
        by_cases ht : ∃ m, v = .tup m
        · obtain ⟨m, rfl⟩ := ht
          simp only [sview, Option.some.injEq] at hl
          subst hl
          obtain ⟨p, ys, ex, hsx, t⟩ := Rep.tup_iff.mp r1
          rw [ex] at rv
          exact call_tuple_of pins s σ H _ us Q I rv ⟨p, ys, rfl, .inr ⟨hsx.sq, q _ μ H .refl rl (Rep.tup_iff.mpr ⟨p, ys, rfl, hsx, t⟩)⟩⟩
        · have hl' : lview v h = some l := by
            cases v with
            | tup m => exact absurd ⟨m, rfl⟩ ht
            | _ => simpa only [sview, lview] using hl
          obtain ⟨p, ys, ex, hrd, t⟩ := lview_ok rl r1 hl'
          rw [ex] at rv
          exact call_tuple_of pins s σ H _ us Q I rv ⟨p, ys, rfl, .inl ⟨hrd, fun p hp => q _ μ _ (.new hp) (rl.new hp) (.newTup rl hp t)⟩⟩
      · cases e
    · cases e
  | sorted =>
    simp only [bltop] at e
    split at e
    · rename_i a1
      obtain ⟨x1, rfl, r1⟩ := rp.one
      exact cl_sorted hc hu I rv rl r1 e q
    · cases e

def tyV' : Ty → String
  | .int => "int" | .bool => "bool" | .str => "str" | .tuple => "tuple" | .list => "list"
theorem kit_tab (K : PySem.W.Frag) [Wd K] (t : Ty) : PySem.W.kitOne K (.type "NoneType") (.type (tyV' t)) = some false ∧ PySem.W.kitOne K (.type "bool") (.type (tyV' t)) = some (t == .int || t == .bool) ∧
    PySem.W.kitOne K (.type "int") (.type (tyV' t)) = some (t == .int) ∧ PySem.W.kitOne K (.type "str") (.type (tyV' t)) = some (t == .str) ∧
    PySem.W.kitOne K (.type "tuple") (.type (tyV' t)) = some (t == .tuple) ∧ PySem.W.kitOne K (.type "list") (.type (tyV' t)) = some (t == .list) ∧ PySem.W.kitOne K (.type "dict") (.type (tyV' t)) = some false := by
  cases t <;> exact ⟨kit_ty (by decide +kernel), kit_ty (by decide +kernel), kit_ty (by decide +kernel), kit_ty (by decide +kernel), kit_ty (by decide +kernel), kit_ty (by decide +kernel), kit_ty (by decide +kernel)⟩
theorem ty_ok {K : PySem.W.Frag} [Wd K] {B μ : List Addr} {h : MH} {H : Hp} (rl : Rel K B μ h H) {v : PV} {x : V} (rp : Rep K B μ H v x) {b0 : Bool} {t0 : Ty} (e0 : tyOk v h t0 = some b0) : ∃ w, TyX K H x w ∧ ∀ t b, tyOk v h t = some b → PySem.W.kitOne K w (.type (tyV' t)) = some b := by
  cases v with
  | non => rw [Rep.non_iff.mp rp]; exact ⟨_, .base .non, fun t b e => by simp only [tyOk, Option.some.injEq] at e; subst e; exact (kit_tab K t).1⟩
  | bl b => rw [Rep.bl_iff.mp rp]; exact ⟨_, .base (.bl b), fun t b e => by simp only [tyOk, Option.some.injEq] at e; subst e; exact (kit_tab K t).2.1⟩
  | int b => rw [Rep.int_iff.mp rp]; exact ⟨_, .base (.int b), fun t b e => by simp only [tyOk, Option.some.injEq] at e; subst e; exact (kit_tab K t).2.2.1⟩
  | str b => rw [(Rep.str_iff.mp rp).1]; exact ⟨_, .base (.str b), fun t b e => by simp only [tyOk, Option.some.injEq] at e; subst e; exact (kit_tab K t).2.2.2.1⟩
  | tup l =>
    obtain ⟨a, vs, rfl, hs, _⟩ := Rep.tup_iff.mp rp
    have fin : ∀ t b, tyOk (.tup l) h t = some b → PySem.W.kitOne K (.type "tuple") (.type (tyV' t)) = some b := fun t b e => by simp only [tyOk, Option.some.injEq] at e; subst e; exact (kit_tab K t).2.2.2.2.1
    rcases hs with ⟨h1 | ⟨o, h1⟩, _⟩ | ⟨o, its, n, h1, h2, _⟩
    · exact ⟨_, .base (.tup h1), fin⟩
    · exact ⟨_, .fTuple h1, fin⟩
    · exact ⟨_, .kTuple h1 h2, fin⟩
  | lst l =>
    obtain ⟨a, vs, rfl, hs, _⟩ := Rep.lst_iff.mp rp
    have fin : ∀ t b, tyOk (.lst l) h t = some b → PySem.W.kitOne K (.type "list") (.type (tyV' t)) = some b := fun t b e => by simp only [tyOk, Option.some.injEq] at e; subst e; exact (kit_tab K t).2.2.2.2.2.1
    rcases hs with ⟨h1 | ⟨o, h1⟩, _⟩ | ⟨o, its, n, h1, h2, _⟩
    · exact ⟨_, .base (.lst h1), fin⟩
    · exact ⟨_, .base (.frz h1), fin⟩
    · exact ⟨_, .kList h1 h2, fin⟩
  | ref n =>
    cases hc : h[n]? with
    | none => simp only [tyOk, hc] at e0; cases e0
    | some c =>
      cases c with
      | dct l =>
        obtain ⟨a, vs, ha, h1, _⟩ := rl.dct hc
        obtain ⟨b, rfl, hb⟩ := Rep.ref_iff.mp rp
        rw [ha] at hb; cases hb
        exact ⟨_, .base (.dK h1), fun t b e => by simp only [tyOk, hc, Option.some.injEq] at e; subst e; exact (kit_tab K t).2.2.2.2.2.2⟩
      | fz _ => simp only [tyOk, hc] at e0; cases e0
      | fzN _ => simp only [tyOk, hc] at e0; cases e0
      | dcT _ => simp only [tyOk, hc] at e0; cases e0
      | obj _ _ => simp only [tyOk, hc] at e0; cases e0
      | dcN _ => simp only [tyOk, hc] at e0; cases e0
      | lst l =>
        obtain ⟨a, vs, ha, h1, t⟩ := rl.lst hc
        obtain ⟨b, rfl, hb⟩ := Rep.ref_iff.mp rp
        rw [ha] at hb; cases hb
        exact ⟨_, .base (.lst h1), fun t b e => by simp only [tyOk, hc, Option.some.injEq] at e; subst e; exact (kit_tab K t).2.2.2.2.2.1⟩
def tyVs : List Ty → List V
  | [] => []
  | t :: ts => .ty (tyV' t) :: tyVs ts
def tyUs : List Ty → List Value
  | [] => []
  | t :: ts => .type (tyV' t) :: tyUs ts
theorem ty_pair : ∀ ts : List Ty, Paired ClsV (tyVs ts) (tyUs ts)
  | [] => .nil
  | t :: ts => .cons (.ty _) (ty_pair ts)
theorem kit_anys {K : PySem.W.Frag} [Wd K] {w : Value} {v : PV} {h : MH} (hk : ∀ t b, tyOk v h t = some b → PySem.W.kitOne K w (.type (tyV' t)) = some b) : ∀ (ts : List Ty) (b : Bool), tyAny v h ts = some b → PySem.W.kitAny K w (tyUs ts) = some b
  | [], b, e => by simp only [tyAny, Option.some.injEq] at e; subst e; exact kitAny_nil
  | t :: ts, b, e => by
    simp only [tyAny] at e
    split at e
    · rename_i a c h1 h2
      cases e
      refine kitAny_cons (b := a) (hk t a h1) (fun z => ?_) (fun z => by subst z; rfl)
      subst z
      exact kit_anys hk ts c h2
    · cases e

def mfName : Mf → Str
  | .append => "append" | .pop => "pop" | .clear => "clear" | .get1 => "get" | .get2 => "get" | .popd => "pop" | .extend => "extend"
def rMt (K : PySem.W.Frag) [Wd K] (m : Mf) : V → List V → Hp → VK → Prop := fun x xs H Q => ∃ B μ h v vs w h', Rel K B μ h H ∧ Rep K B μ H v x ∧ Reps K B μ H vs xs ∧ mthop m v vs h = .ok (w, h') ∧
  ∀ z μ' H', Step μ H μ' H' → Rel K B μ' h' H' → Rep K B μ' H' w z → Q z H'
theorem mt_ap : MtR X "list.append" (rMt X.K .append) := by
  intro pins s σ H x xs v us Q I rx rv hh
  obtain ⟨B, μ, h, o, vs, w, h', rl, ro, rp, e, q⟩ := hh
  have hb : big ≤ sizeLine := big_le
  simp only [mthop] at e
  split at e
  · split at e
    · rename_i l hl
      split at e
      · rename_i hz
        cases e
        obtain ⟨y, rfl, r1⟩ := rp.one
        obtain ⟨a, ws, ha, h1, t⟩ := rl.lst hl
        obtain ⟨b, ex, hb'⟩ := Rep.ref_iff.mp ro
        rw [ha] at hb'; cases hb'
        rw [ex] at rx
        rw [t.length] at hz
        exact mt_append pins s σ H _ _ v us Q I rx rv ⟨a, ws, y, rfl, rfl, h1, by omega, q _ μ _ (.write ha (nfz h1)) (rl.write ha (nfz h1) (t.append (.cons r1 .nil))) .non⟩
      · cases e
    · cases e
  · cases e
theorem mt_po : MtR X "list.pop" (rMt X.K .pop) := by
  intro pins s σ H x xs v us Q I rx rv hh
  obtain ⟨B, μ, h, o, vs, w, h', rl, ro, rp, e, q⟩ := hh
  simp only [mthop] at e
  split at e
  · split at e
    · rename_i l hl
      split at e
      · rename_i z hz
        cases e
        rw [rp.nil_inv] at rv
        obtain ⟨a, ws, ha, h1, t⟩ := rl.lst hl
        obtain ⟨b, ex, hb'⟩ := Rep.ref_iff.mp ro
        rw [ha] at hb'; cases hb'
        rw [ex] at rx
        rw [List.getLast?_eq_getElem?, t.length] at hz
        obtain ⟨zv, hzv, rz⟩ := t.get hz
        have st : Step μ H μ (upd H a (.lst ws.dropLast)) := .write ha (nfz h1)
        exact mt_pop pins s σ H _ _ v us Q I rx rv ⟨a, ws, zv, rfl, rfl, h1, hzv, q _ μ _ st (rl.write ha (nfz h1) t.dropLast) (rz.step st)⟩
      · cases e
    · cases e
  · cases e
theorem mt_cl : MtR X "list.clear" (rMt X.K .clear) := by
  intro pins s σ H x xs v us Q I rx rv hh
  obtain ⟨B, μ, h, o, vs, w, h', rl, ro, rp, e, q⟩ := hh
  simp only [mthop] at e
  split at e
  · split at e
    · rename_i l hl
      cases e
      rw [rp.nil_inv] at rv
      obtain ⟨a, ws, ha, h1, t⟩ := rl.lst hl
      obtain ⟨b, ex, hb'⟩ := Rep.ref_iff.mp ro
      rw [ha] at hb'; cases hb'
      rw [ex] at rx
      exact mt_clear pins s σ H _ _ v us Q I rx rv ⟨a, ws, rfl, rfl, h1, q _ μ _ (.write ha (nfz h1)) (rl.write ha (nfz h1) .nil) .non⟩
    · cases e
  · cases e
theorem dct_drop {κ : Type} [DecidableEq κ] {K : PySem.W.Frag} [Wd K] {B μ : List Addr} {H : Hp} {k : κ} : ∀ {l : List (κ × PV)} {kvs : List (κ × V)}, kvs.map (·.1) = l.map (·.1) → Reps K B μ H (l.map (·.2)) (kvs.map (·.2)) →
    (L2.dropK kvs k).map (·.1) = (l.filter fun kv => decide (kv.1 ≠ k)).map (·.1) ∧ Reps K B μ H ((l.filter fun kv => decide (kv.1 ≠ k)).map (·.2)) ((L2.dropK kvs k).map (·.2))
  | [], [], _, _ => ⟨rfl, .nil⟩
  | [], _ :: _, e, _ => by simp at e
  | _ :: _, [], e, _ => by simp at e
  | (j, p) :: l, (j', v) :: kvs, e, r => by
    simp only [List.map_cons, List.cons.injEq] at e
    obtain ⟨rfl, e⟩ := e
    rw [List.map_cons, List.map_cons] at r
    obtain ⟨v', w, ev, h1, t⟩ := r.cons_inv
    cases ev
    obtain ⟨i1, i2⟩ := dct_drop (k := k) e t
    unfold L2.dropK at *
    by_cases c : j' = k
    · rw [List.filter_cons_of_neg (by simp [c]), List.filter_cons_of_neg (by simp [c])]
      exact ⟨i1, i2⟩
    · rw [List.filter_cons_of_pos (by simp [c]), List.filter_cons_of_pos (by simp [c])]
      refine ⟨?_, ?_⟩
      · rw [List.map_cons, List.map_cons, i1]
      · rw [List.map_cons, List.map_cons]
        exact .cons h1 i2
theorem mt_ex : MtR X "list.extend" (rMt X.K .extend) := by
  intro pins s σ H x xs v us Q I rx rv hh
  obtain ⟨B, μ, h, o, vs, w, h', rl, ro, rp, e, q⟩ := hh
  have hb : big ≤ sizeLine := big_le
  have go : ∀ (n : Nat) (l r : List PV) (y : PV), o = .ref n → vs = [y] → h[n]? = some (.lst l) → lview y h = some r → (∀ m, y = .ref m → m ≠ n) → l.length + r.length ≤ big → w = .non → h' = h.set n (.lst (l ++ r)) →
      wpAny (model X.prog X.w) X.A (call (.builtin "list.extend") (v :: us)) (EP X pins σ Q) X.xe s := by
    rintro n l r y rfl rfl hl hr hne hz rfl rfl
    obtain ⟨y', rfl, r1⟩ := rp.one
    obtain ⟨a, ws, ha, h1, t⟩ := rl.lst hl
    obtain ⟨b, ex, hb'⟩ := Rep.ref_iff.mp ro
    rw [ha] at hb'; cases hb'
    obtain ⟨b2, zs, eb, hq, t2⟩ := lview_ok rl r1 hr
    subst eb
    rw [ex] at rx
    obtain ⟨u, rfl, ru⟩ := vals1 rv
    obtain rfl : v = Value.ref a := rx
    obtain rfl : u = Value.ref b2 := ru
    obtain ⟨z, its, n1, r0, hl1, e1⟩ := I.lstM h1
    obtain ⟨its2, r2, p2, hz2⟩ := I.list hq
    obtain ⟨⟨c2, d2, dt2, sl2⟩, n2, e2, hc2, hd2, hdt2⟩ := p2
    simp only at hc2 hd2 hdt2
    subst hc2 hd2 hdt2
    have w1 := r0.length
    have w2 := r2.length
    have w3 := t.length
    have w4 := t2.length
    have hsz : its.toArray.size + its2.toArray.size ≤ sizeLine := by rw [List.size_toArray, List.size_toArray]; omega
    have hlong : ¬ (!its.toArray.isEmpty && Builtin.List.listTooLong (its.toArray.size + its2.toArray.size)) = true := by
      rw [notLongL hsz, Bool.and_false]
      exact Bool.false_ne_true
    refine call_meets PySem.F.slot_list_extend ⟨_, e1, rfl⟩ PySem.F.entry_list_extend (PySem.F.args_list_extend_2 _ _)
      (meets_extend_any a its.toArray n1 b2 its2.toArray n2 _ _ hlong (by rw [List.size_toArray]; omega) (by omega)) ⟨e1, e2, ?_⟩
    refine ⟨.non, _, I.lset (its' := its ++ its2) h1 e1 (by simp) (r0.append r2) ?_, rfl, q _ μ _ (.write ha (nfz h1)) (rl.write ha (nfz h1) (t.append t2)) .non⟩
    rw [List.length_append]
    omega
  simp only [mthop] at e
  split at e
  · split at e
    · rename_i l hl
      split at e
      · rename_i m r hr
        split at e
        · rename_i hz
          cases e
          exact go _ _ _ _ rfl rfl hl hr (fun m' z => by cases z; exact hz.1) hz.2 rfl rfl
        · cases e
      · rename_i m r hr
        split at e
        · rename_i hz
          cases e
          exact go _ _ _ _ rfl rfl hl hr (fun m' z => by cases z) hz rfl rfl
        · cases e
      · cases e
    · cases e
  · cases e
theorem mt_pd : MtR X "dict.pop" (rMt X.K .popd) := by
  intro pins s σ H x xs v us Q I rx rv hh
  obtain ⟨B, μ, h, o, vs, w, h', rl, ro, rp, e, q⟩ := hh
  simp only [mthop] at e
  split at e
  · rename_i n y d
    split at e
    · rename_i l hl
      split at e
      · rename_i k hk
        obtain ⟨ad, kvs, ha, hH, h2, h3⟩ := rl.dct hl
        obtain ⟨b, ex, hb'⟩ := Rep.ref_iff.mp ro
        rw [ha] at hb'; cases hb'
        rw [ex] at rx
        obtain rfl : v = Value.ref ad := rx
        obtain ⟨y', d', rfl, r1, r2⟩ := rp.two
        have kx := keyP_V r1 hk
        subst kx
        obtain ⟨u1, u2, rfl, ru, rd⟩ := vals2 rv
        rcases dct_val k h2.1 h3 with ⟨z1, z2⟩ | ⟨p, v', z1, z2, z3⟩
        · rw [z1] at e
          cases e
          exact d_popD I hH ru z2 fun s' I' => ⟨d', H, I', rd, q _ μ H .refl rl r2⟩
        · rw [z1] at e
          cases e
          refine d_pop I hH ru z2 (.inr ⟨u2, rfl⟩) fun w' s' I' rw' => ⟨v', _, I', rw', ?_⟩
          have dr := dct_drop (k := k) h2.1 h3
          exact q _ μ _ (.write ha (nfz hH)) (rl.writeD ha (nfz hH) ⟨dr.1, fun s hs => h2.2 s (by
            obtain ⟨p, hp, e⟩ := List.mem_map.mp hs
            exact List.mem_map.mpr ⟨p, (List.mem_filter.mp hp).1, e⟩)⟩ dr.2) (z3.step (.write ha (nfz hH)))
      · cases e
    · cases e
  · cases e
theorem mt_g1 (hu : X.A.units + 1 < cLine) : MtR X "dict.get" (rMt X.K .get1) := by
  intro pins s σ H x xs v us Q I rx rv hh
  obtain ⟨B, μ, h, o, vs, w, h', rl, ro, rp, e, q⟩ := hh
  simp only [mthop] at e
  split at e
  · rename_i l y hl
    split at e
    · rename_i k hk
      cases e
      obtain ⟨n, ad, kvs, _, rfl, _, _, hH, h2, h3⟩ := dview_ok rl ro hl
      obtain rfl : v = Value.ref ad := rx
      obtain ⟨y', rfl, r1⟩ := rp.one
      have kx := keyP_V r1 hk
      subst kx
      obtain ⟨u, rfl, ru⟩ := vals1 rv
      refine d_get1 hu I (o := L2.valV kvs k) (dget_r hH) ru fun w' s' I' rw' => ⟨_, H, I', rw', ?_⟩
      rcases dct_val k h2 h3 with ⟨z1, z2⟩ | ⟨p, v', z1, z2, z3⟩
      · rw [z2]; rw [z1] at q; exact q _ μ H .refl rl .non
      · rw [z2]; rw [z1] at q; exact q _ μ H .refl rl z3
    · cases e
  · cases e
theorem mt_g2 (hu : X.A.units + 1 < cLine) : MtR X "dict.get" (rMt X.K .get2) := by
  intro pins s σ H x xs v us Q I rx rv hh
  obtain ⟨B, μ, h, o, vs, w, h', rl, ro, rp, e, q⟩ := hh
  simp only [mthop] at e
  split at e
  · rename_i l y d hl
    split at e
    · rename_i k hk
      cases e
      obtain ⟨n, ad, kvs, _, rfl, _, _, hH, h2, h3⟩ := dview_ok rl ro hl
      obtain rfl : v = Value.ref ad := rx
      obtain ⟨y', d', rfl, r1, r2⟩ := rp.two
      have kx := keyP_V r1 hk
      subst kx
      obtain ⟨u1, u2, rfl, ru, rd⟩ := vals2 rv
      refine d_get2 hu I (o := L2.valV kvs k) (dget_r hH) ru rd fun w' s' I' rw' => ⟨_, H, I', rw', ?_⟩
      rcases dct_val k h2 h3 with ⟨z1, z2⟩ | ⟨p, v', z1, z2, z3⟩
      · rw [z2]; rw [z1] at q; exact q _ μ H .refl rl r2
      · rw [z2]; rw [z1] at q; exact q _ μ H .refl rl z3
    · cases e
  · cases e
end
end Rg

namespace Rg
open PySem PySem.Spec PyProof.Rows L2

def plainHd : Expr → Bool
  | .Name .. | .Constant .. | .BinOp .. | .Compare .. | .BoolOp .. | .UnaryOp .. | .Subscript .. | .Call .. | .Tuple .. | .List .. | .ListComp .. | .Attribute .. | .Dict .. => true
  | _ => false
def truHd : Expr → Bool
  | .Name .. | .Constant .. | .BinOp .. | .Subscript .. | .Call .. | .Tuple .. | .List .. | .ListComp .. | .Attribute .. | .Dict .. => true
  | .UnaryOp .USub _ _ => true
  | _ => false
def attrHd : Expr → Bool
  | .Name .. | .Constant .. | .Subscript .. | .Attribute .. | .List .. => true
  | _ => false
/-- what a method may be called on -/
def recvHd : Expr → Bool
  | .Call (.Attribute ..) .. => true
  | x => attrHd x
theorem plain_star {x : Expr} (h : plainHd x = true) (xs : List Expr) (env : Env) : starEach (x :: xs) env = (false, eval x env) :: starEach xs env := by
  cases x <;> first | rfl | (simp [plainHd] at h)
theorem plain_folded {x : Expr} (h : plainHd x = true) (env : Env) (v : Value) : foldedSetIterable x env v = pure v := by
  cases x <;> first | rfl | (simp [plainHd] at h)
theorem plain_in {x : Expr} (h : plainHd x = true) (op : CmpOp) : behindInMarks op x = false := by
  cases x <;> first | rfl | (simp [plainHd] at h)
theorem plain_ix {x : Expr} (h : plainHd x = true) : PlainIx x := by
  cases x <;> first | (intro _ _; rfl) | (simp [plainHd] at h)
theorem attr_base {x : Expr} (h : attrHd x = true) (m : Str) (env : Env) (w : Sem Value) : attributeBase x m env w = w := by
  cases x <;> first | rfl | (simp [attrHd] at h)
theorem recv_base {x : Expr} (h : recvHd x = true) (m : Str) (env : Env) (w : Sem Value) : attributeBase x m env w = w := by
  cases x with
  | Call f xs ks p =>
    cases f with
    | Attribute a b c => rfl
    | _ => simp [recvHd, attrHd] at h
  | _ => first | rfl | (simp [recvHd, attrHd] at h)
theorem tru_plain {x : Expr} (h : truHd x = true) (env : Env) : ∀ whole, isTrue x env whole = (do let v ← whole; standAt x.pos; holding [v] (truthy v)) := by
  cases x with
  | UnaryOp op y p => cases op <;> first | (intro _; rfl) | (simp [truHd] at h)
  | _ => first | (intro _; rfl) | (simp [truHd] at h)
theorem plain_any {pos : Pos} {env : Env} : ∀ {xs : List Expr}, xs.all plainHd = true → (backTo pos (starEach xs env)).any (·.1) = false
  | [], _ => rfl
  | x :: xs, h => by
    rw [List.all_cons, Bool.and_eq_true] at h
    rw [plain_star h.1]
    have ih := plain_any (pos := pos) (env := env) h.2
    show (false || (backTo pos (starEach xs env)).any (·.1)) = false
    rw [ih]; rfl


def asCall1 : Expr → Option (Str × Expr)
  | .Call (.Name f _) [x] [] _ => some (f, x)
  | _ => none
theorem asCall1_ok {x : Expr} {f : Str} {y : Expr} (h : asCall1 x = some (f, y)) : ∃ p pos, x = .Call (.Name f p) [y] [] pos := by
  unfold asCall1 at h
  split at h
  · cases h; exact ⟨_, _, rfl⟩
  · cases h
def asRep : Expr → Option (Expr × Int)
  | .BinOp (.List [x] _) .Mult (.Constant (.int j) _ _) _ => some (x, j)
  | _ => none
theorem asRep_ok {x : Expr} {y : Expr} {j : Int} (h : asRep x = some (y, j)) : ∃ p1 cs p2 pos, x = .BinOp (.List [y] p1) .Mult (.Constant (.int j) cs p2) pos := by
  unfold asRep at h
  split at h
  · cases h; exact ⟨_, _, _, _, rfl⟩
  · cases h
def asRepD : Expr → Option (Expr × Expr)
  | .BinOp (.List [x] _) .Mult y _ => some (x, y)
  | _ => none
theorem asRepD_ok {x : Expr} {y z : Expr} (h : asRepD x = some (y, z)) : ∃ p1 pos, x = .BinOp (.List [y] p1) .Mult z pos := by
  unfold asRepD at h
  split at h
  · cases h; exact ⟨_, _, rfl⟩
  · cases h
def asCall2 : Expr → Option (Str × Expr × Expr)
  | .Call (.Name f _) [x, y] [] _ => some (f, x, y)
  | _ => none
theorem asCall2_ok {x : Expr} {f : Str} {y z : Expr} (h : asCall2 x = some (f, y, z)) : ∃ p pos, x = .Call (.Name f p) [y, z] [] pos := by
  unfold asCall2 at h
  split at h
  · cases h; exact ⟨_, _, rfl⟩
  · cases h
def asName : Expr → Option Str
  | .Name f _ => some f
  | _ => none
theorem asName_ok {x : Expr} {f : Str} (h : asName x = some f) : ∃ p, x = .Name f p := by
  unfold asName at h
  split at h
  · cases h; exact ⟨_, rfl⟩
  · cases h
def asTup : Expr → Option (List Expr)
  | .Tuple xs _ _ => some xs
  | _ => none
theorem asTup_ok {x : Expr} {xs : List Expr} (h : asTup x = some xs) : ∃ n p, x = .Tuple xs n p := by
  unfold asTup at h
  split at h
  · cases h; exact ⟨_, _, rfl⟩
  · cases h
def asComp : Expr → Option (Expr × Expr × Expr × List Expr × Scope)
  | .ListComp ex [⟨tx, ix, ifx, 0⟩] scope _ => some (ex, tx, ix, ifx, scope)
  | _ => none
theorem asComp_ok {x ex tx ix : Expr} {ifx : List Expr} {scope : Scope} (h : asComp x = some (ex, tx, ix, ifx, scope)) : ∃ p, x = .ListComp ex [⟨tx, ix, ifx, 0⟩] scope p := by
  unfold asComp at h
  split at h
  · cases h; exact ⟨_, rfl⟩
  · cases h

def visB (sc : Scope) (x : Str) : Bool := match sc.names.lookup x with | some .local => true | some .cell => true | some .free => true | _ => false
def locB (sc : Scope) (x : Str) : Bool := match sc.names.lookup x with | some .local => true | some .cell => true | _ => false
def glB (sc : Scope) (x : Str) : Bool := match sc.names.lookup x with | some .globalImplicit => !(x == ("__debug__" : Str)) && !(x == ("__name__" : Str)) | _ => false
def nmB (N : List Str) (sc : Scope) (i : Nat) (x : Str) : Bool := decide (N[i]? = some x) && visB sc x && !(x == ("__debug__" : Str)) && !(x == ("__classdict__" : Str))
def ltB (N : List Str) (sc : Scope) (i : Nat) (x : Str) : Bool := decide (N[i]? = some x) && locB sc x
def fnB (pg : Pg) (f : String) (x : Str) : Bool := match pg.fn f with | some d => decide (d.py = x) && decide (pg.cl f = none) | none => false
/-- f is the key's name of the function that stands as z -/
def kyB (pg : Pg) (f : String) (z : Str) : Bool := match pg.ky f with | some g => (pg.fn f).isNone && (pg.mak f).isNone && fnB pg g z | none => false
/-- a method of a class; an attribute; a class -/
def mtB (pg : Pg) (f : String) (c nm : Str) : Bool := match pg.fn f with | some d => decide (d.py = nm) && decide (pg.cl f = some c) | none => false
def flB (pg : Pg) (c f : Str) : Bool := match pg.cs.lookup c with | some l => l.contains f | none => false
def mkB (pg : Pg) (f : String) (x : Str) : Bool := match pg.mak f with | some (c, _) => decide (c = x) && decide ((pg.fn f).isNone = true) | none => false
def asAttr : Expr → Option (Expr × Str)
  | .Attribute x f _ => some (x, f)
  | _ => none
theorem asAttr_ok {x y : Expr} {f : Str} (h : asAttr x = some (y, f)) : ∃ p, x = .Attribute y f p := by
  unfold asAttr at h
  split at h
  · cases h; exact ⟨_, rfl⟩
  · cases h
/-- a display's keys -/
def keyB : L2.Key → Option Expr → Bool
  | .inl i, some (.Constant (.int j) _ _) => decide (i = j)
  | .inr s, some (.Constant (.str t) _ _) => decide (s = t) && decide (s.length ≤ big) && PyData.strOk s
  | _, _ => false
def keysB : List L2.Key → List (Option Expr) → Bool
  | [], [] => true
  | k :: ks, x :: xs => keyB k x && keysB ks xs
  | _, _ => false
def asDict : Expr → Option (List (Option Expr) × List Expr)
  | .Dict ks vs _ => some (ks, vs)
  | _ => none
theorem asDict_ok {x : Expr} {ks : List (Option Expr)} {vs : List Expr} (h : asDict x = some (ks, vs)) : ∃ p, x = .Dict ks vs p := by
  unfold asDict at h
  split at h
  · cases h; exact ⟨_, rfl⟩
  · cases h
def tyS : Ty → Str
  | .int => "int" | .bool => "bool" | .str => "str" | .tuple => "tuple" | .list => "list"
def tysB (sc : Scope) : List Ty → List Expr → Bool
  | [], [] => true
  | t :: ts, .Name y _ :: ys => decide (y = tyS t) && glB sc y && tysB sc ts ys
  | _, _ => false
def tgB (N : List Str) (sc : Scope) : Tg → Expr → Bool
  | .name i, .Name x _ => ltB N sc i x
  | .tup2 a b, .Tuple [x, y] _ _ => tgB N sc a x && tgB N sc b y && plainHd x && plainHd y
  | .tup3 a b c, .Tuple [x, y, z] _ _ => tgB N sc a x && tgB N sc b y && tgB N sc c z && plainHd x && plainHd y && plainHd z
  | .tup4 a b c d, .Tuple [x, y, z, w] _ _ => tgB N sc a x && tgB N sc b y && tgB N sc c z && tgB N sc d w && plainHd x && plainHd y && plainHd z && plainHd w
  | .tup5 a b c d e, .Tuple [x, y, z, w, u] _ _ => tgB N sc a x && tgB N sc b y && tgB N sc c z && tgB N sc d w && tgB N sc e u && plainHd x && plainHd y && plainHd z && plainHd w && plainHd u
  | .tup6 a b c d e f, .Tuple [x, y, z, w, u, t] _ _ => tgB N sc a x && tgB N sc b y && tgB N sc c z && tgB N sc d w && tgB N sc e u && tgB N sc f t && plainHd x && plainHd y && plainHd z && plainHd w && plainHd u && plainHd t
  | _, _ => false
/-- the target's names are among the block's own -/
def tgIn (own : List Nat) : Tg → Bool
  | .name i => own.contains i
  | .tup2 a b => tgIn own a && tgIn own b
  | .tup3 a b c => tgIn own a && tgIn own b && tgIn own c
  | .tup4 a b c d => tgIn own a && tgIn own b && tgIn own c && tgIn own d
  | .tup5 a b c d e => tgIn own a && tgIn own b && tgIn own c && tgIn own d && tgIn own e
  | .tup6 a b c d e f => tgIn own a && tgIn own b && tgIn own c && tgIn own d && tgIn own e && tgIn own f
def esLen : Es → Nat
  | .nil => 0
  | .cons _ es => esLen es + 1
def sfName : Sf → Str
  | .find => "find" | .strip => "strip" | .join => "join" | .split => "split" | .partition => "partition" | .upper => "upper" | .isdigit => "isdigit"
def sfAr : Sf → Nat
  | .find => 1 | .strip => 1 | .join => 1 | .split => 1 | .partition => 1 | .upper => 0 | .isdigit => 0
def spName : Spf → Str
  | .rng1 => "range" | .rng2 => "range" | .rev => "reversed" | .copy => "list"
section
variable (pg : Pg) (N : List Str)
def notLck : E → Bool
  | .lck .. => false
  | _ => true
mutual
def ckE (sc : Scope) : E → Expr → Bool
  | .var i, q' => match q' with
    | .Name x _ => nmB N sc i x
    | _ => false
  | .non, q' => match q' with
    | .Constant .none _ _ => true
    | _ => false
  | .kbl b, q' => match q' with
    | .Constant (.bool c) _ _ => b == c
    | _ => false
  | .kint i, q' => match q' with
    | .Constant (.int j) _ _ => decide (i = j)
    | _ => false
  | .kstr s, q' => match q' with
    | .Constant (.str t) _ _ => decide (s = t) && decide (s.length ≤ big) && PyData.strOk s
    | _ => false
  | .glb x, q' => match q' with
    | .Name y _ => decide (x = y) && glB sc y
    | _ => false
  | .bin op a b, q' => match q' with
    | .BinOp x op' y _ => decide (op = op') && ckE sc a x && ckE sc b y
    | _ => false
  | .cmp op a b, q' => match q' with
    | .Compare x [op'] [y] _ => decide (op = op') && ckE sc a x && ckE sc b y && plainHd y
    | _ => false
  | .chn o1 o2 a b c, q' => match q' with
    | .Compare x [p1, p2] [y, z] _ => decide (o1 = p1) && decide (o2 = p2) && ckE sc a x && ckE sc b y && ckE sc c z && plainHd y && plainHd z
    | _ => false
  | .and es, q' => match q' with
    | .BoolOp .And xs _ => ckEs sc es xs && decide (0 < esLen es)
    | _ => false
  | .or es, q' => match q' with
    | .BoolOp .Or xs _ => ckEs sc es xs && decide (0 < esLen es)
    | _ => false
  | .not a, q' => match q' with
    | .UnaryOp .Not x _ => ckE sc a x
    | _ => false
  | .neg a, q' => match q' with
    | .UnaryOp .USub x _ => ckE sc a x
    | _ => false
  | .idx a b, q' => match q' with
    | .Subscript x y _ => ckE sc a x && ckE sc b y && plainHd y
    | _ => false
  | .slc a lo hi, q' => match q' with
    | .Subscript x (.Slice l u none _) _ => ckE sc a x && ckO sc lo l && ckO sc hi u
    | _ => false
  | .revT a, q' => match q' with
    | .Subscript x (.Slice none none (some (.UnaryOp .USub (.Constant (.int n) _ _) _)) _) _ => decide (n = 1) && ckE sc a x
    | _ => false
  | .slcS a lo n, q' => match q' with
    | .Subscript x (.Slice l none (some (.Constant (.int m) _ _)) _) _ => decide (m = (n : Int)) && decide (0 < n) && ckE sc a x && ckO sc lo l
    | _ => false
  | .srtK e f, q' => match q' with
    | .Call (.Name x _) [y] [⟨some kn, .Name z _, _⟩] _ => decide (x = ("sorted" : Str)) && glB sc x && ckE sc e y && plainHd y && decide (kn = ("key" : Str)) && glB sc z && kyB pg f z
    | _ => false
  | .lenS e, q => match asCall1 q with
    | some (x, y) => decide (x = ("len" : Str)) && glB sc x && (match asCall1 y with
      | some (z, a) => decide (z = ("set" : Str)) && glB sc z && ckE sc e a && plainHd a
      | none => false)
    | none => false
  | .tup es, q' => match q' with
    | .Tuple xs _ _ => ckEs sc es xs && decide (esLen es ≤ 1000)
    | _ => false
  | .lst es, q' => match q' with
    | .List xs _ => ckEs sc es xs && decide (esLen es ≤ 1000)
    | _ => false
  | .lstM es, q' => match q' with
    | .List xs _ => ckEs sc es xs && decide (esLen es ≤ 1000)
    | _ => false
  | .lrep e n, q => match asRep q with
    | some (x, j) => ckE sc e x && plainHd x && decide (j = (n : Int)) && decide (n ≤ 1000)
    | none => false
  | .lrepD e n, q => match asRepD q with
    | some (x, y) => ckE sc e x && plainHd x && ckE sc n y
    | none => false
  | .mcallV cs nm dd o es, q' => match q' with
    | .Call (.Attribute ox m apos) xs [] cpos => decide (m = nm) && recvHd ox && ckE sc o ox && ckEs sc es xs && cs.all (fun cf => mtB pg cf.2 cf.1 nm && (!dd || pg.df cf.2)) && (apos.endLine == cpos.line) && decide (esLen es < 29) && !cs.isEmpty
    | _ => false
  | .dnew, q' => match q' with
    | .Dict [] [] _ => true
    | _ => false
  | .dnewT, q' => match q' with
    | .Dict [] [] _ => true
    | _ => false
  | .getT o ks d, q' => match q' with
    | .Call (.Attribute ox nm apos) [.Tuple xs _ _, y] [] cpos => decide (nm = ("get" : Str)) && attrHd ox && ckE sc o ox && ckEs sc ks xs && ckE sc d y && plainHd y && (apos.endLine == cpos.line) && decide (esLen ks ≤ 1000)
    | _ => false
  | .callP f es, q' => match q' with
    | .Call (.Name x _) xs [] _ => fnB pg f x && glB sc x && ckEs sc es xs
    | _ => false
  | .callH f es, q' => match q' with
    | .Call (.Name x _) xs [] _ => fnB pg f x && glB sc x && ckEs sc es xs
    | _ => false
  | .blt f es, q' => match q' with
    | .Call (.Name x _) xs [] _ => decide (x = bfName f) && glB sc x && ckEs sc es xs && decide (0 < esLen es)
    | _ => false
  | .isi e t, q => match asCall2 q with
    | some (x, y, c) => (match asName c with
      | some ty => decide (x = ("isinstance" : Str)) && glB sc x && ckE sc e y && plainHd y && decide (ty = tyS t) && glB sc ty
      | none => false)
    | none => false
  | .isiT e ts, q => match asCall2 q with
    | some (x, y, c) => (match asTup c with
      | some tys => decide (x = ("isinstance" : Str)) && glB sc x && ckE sc e y && plainHd y && tysB sc ts tys && decide (0 < ts.length ∧ ts.length ≤ 5)
      | none => false)
    | none => false
  | .mth m o es, q' => match q' with
    | .Call (.Attribute ox nm apos) xs [] cpos => decide (nm = mfName m) && recvHd ox && ckE sc o ox && ckEs sc es xs && (apos.endLine == cpos.line) && decide (esLen es = mthAr m)
    | _ => false
  | .fld c e f, q => match asAttr q with
    | some (x, nm) => decide (nm = f) && attrHd x && ckE sc e x && flB pg c f
    | none => false
  | .mcall c nm f o es, q' => match q' with
    | .Call (.Attribute ox m apos) xs [] cpos => decide (m = nm) && recvHd ox && ckE sc o ox && ckEs sc es xs && mtB pg f c nm && (apos.endLine == cpos.line) && decide (esLen es < 29)
    | _ => false
  | .mcallD c nm f o es, q' => match q' with
    | .Call (.Attribute ox m apos) xs [] cpos => decide (m = nm) && recvHd ox && ckE sc o ox && ckEs sc es xs && mtB pg f c nm && (apos.endLine == cpos.line) && decide (esLen es < 29) && pg.df f
    | _ => false
  | .make f es, q' => match q' with
    | .Call (.Name x _) xs [] _ => mkB pg f x && glB sc x && ckEs sc es xs
    | _ => false
  | .ddisp ks es, q => match asDict q with
    | some (kx, vx) => keysB ks kx && ckEs sc es vx && decide (ks.Nodup) && decide (0 < ks.length ∧ ks.length ≤ 15 ∧ esLen es = ks.length)
    | none => false
  | .dnewN, q' => match q' with
    | .Dict [] [] _ => true
    | _ => false
  | .getN o es, q' => match q' with
    | .Call (.Attribute ox nm apos) xs [] cpos => decide (nm = ("get" : Str)) && attrHd ox && ckE sc o ox && ckEs sc es xs && (apos.endLine == cpos.line) && decide (0 < esLen es ∧ esLen es < 9)
    | _ => false
  | .spc1 m f e, q => match asCall1 q with
    | some (x, y) => decide (x = ("list" : Str)) && glB sc x && (match decide (f = .copy) with
      | true => ckE sc e y && plainHd y
      | false => match asCall1 y with
        | some (z, a) => decide (z = spName f) && glB sc z && ckE sc e a && plainHd a && decide (f ≠ .rng2)
        | none => false)
    | none => false
  | .spc2 m a b, q => match asCall1 q with
    | some (x, y) => decide (x = ("list" : Str)) && glB sc x && (match asCall2 y with
      | some (z, u, v) => decide (z = ("range" : Str)) && glB sc z && ckE sc a u && plainHd u && ckE sc b v && plainHd v
      | none => false)
    | none => false
  | .sth f o es, q' => match q' with
    | .Call (.Attribute ox nm apos) xs [] cpos => decide (nm = sfName f) && recvHd ox && ckE sc o ox && ckEs sc es xs && (apos.endLine == cpos.line) && decide (esLen es = sfAr f)
    | _ => false
  | .comp m elt tg it ifs own, q => match asComp q with
    | none => false
    | some (ex, tx, ix, ifx, scope) => blkC N sc scope own && ckE scope elt ex && tgB N scope tg tx && tgIn (own.map (·.2)) tg && ckI sc it tx ix && ckEs scope ifs ifx && decide (esLen ifs ≤ 1)
  | .lck _ e, q => truHd q && ckE sc e q
  | .ife _ _ _, _ => false
def ckEs (sc : Scope) : Es → List Expr → Bool
  | .nil, [] => true
  | .cons e es, x :: xs => ckE sc e x && plainHd x && ckEs sc es xs
  | _, _ => false
def ckO (sc : Scope) : Oe → Option Expr → Bool
  | .no, none => true
  | .yes e, some x => ckE sc e x
  | _, _ => false
def ckI (sc : Scope) : It → Expr → Expr → Bool
  | .seq e, _, x => ckE sc e x && plainHd x
  | .rng1 e, _, q => match asCall1 q with
    | none => false
    | some (f, x) => decide (f = ("range" : Str)) && glB sc f && ckE sc e x && plainHd x
  | .rng2 a b, _, q => match asCall2 q with
    | none => false
    | some (f, x, y) => decide (f = ("range" : Str)) && glB sc f && ckE sc a x && plainHd x && ckE sc b y && plainHd y
  | .enm e, t, q => match asTup t, asCall1 q with
    | some _, some (f, x) => decide (f = ("enumerate" : Str)) && glB sc f && ckE sc e x && plainHd x
    | _, _ => false
  | .zip a b, t, q => match asTup t, asCall2 q with
    | some _, some (f, x, y) => decide (f = ("zip" : Str)) && glB sc f && ckE sc a x && plainHd x && ckE sc b y && plainHd y
    | _, _ => false
  | .dks e, _, x => ckE sc e x && plainHd x
  | .dksN e, _, x => ckE sc e x && plainHd x
end
end
theorem ckEs_plain {pg : Pg} {N : List Str} {sc : Scope} : ∀ {es : Es} {xs : List Expr}, ckEs pg N sc es xs = true → xs.all plainHd = true
  | .nil, [], _ => rfl
  | .cons e es, x :: xs, h => by
    simp only [ckEs, Bool.and_eq_true] at h
    rw [List.all_cons, Bool.and_eq_true]
    exact ⟨h.1.2, ckEs_plain h.2⟩
  | .nil, _ :: _, h => by simp only [ckEs] at h; cases h
  | .cons _ _, [], h => by simp only [ckEs] at h; cases h

/-- the built-in names that a program of ours uses -/
def bltNames : List Str := ["len", "abs", "max", "min", "sum", "any", "all", "int", "str", "list", "tuple", "sorted", "isinstance", "bool", "range", "enumerate", "zip", "reversed", "set"]
/-- what a function promises: its run -/
def spF (K : PySem.W.Frag) [Wd K] (XC : XCT) (pg : Pg) (k : Nat) (f : String) : Sp := fun vs H Q E => ∃ B μ h ps, Rel K B μ h H ∧ Reps K B μ H ps vs ∧
  PostG K B XC (fun cls d _ H' => E cls d H') [] (Rep K B) Q (run pg k f ps h) μ H
/-- the classes of exceptions behind the top -/
structure ExOk (K : PySem.W.Frag) (mg : Str → Option Value) (pg : Pg) (XC : XCT) : Prop where
  r : ∀ c ∈ pg.rs, ∃ (C : Addr) (B newId initId : String) (bmB : List Value), mg c = some (.ref C) ∧ PySem.W.keepIn K (.ref C) = true ∧ PySem.W.excIn K C bmB newId = true ∧ ExcBaseFacts B newId initId bmB ∧
    PySem.W.subIn K (.ref C) (.type "BaseException") = some true ∧ PySem.W.typeIn K (.ref C) = some (.type "type") ∧ XC c (.ref C) none
  x : ∀ c cls d, XC c cls d → ∃ C, cls = .ref C ∧ d = none ∧ ExcC K C
  n : ∀ c cls d, XC c cls d → pg.fn "<" = none ∧ pg.fn "?" = none ∧ pg.mak "<" = none ∧ pg.mak "?" = none
  m : ∀ c cls d h b, XC c cls d → pg.xm "<" c h = some b → ∃ v, mg h = some v ∧ PySem.W.exmOne K cls v = some b
  t : ∀ c cls d h b, XC c cls d → pg.xm "?" c h = some b → ∃ (v : V) (u : Value), ((mg h = some u) ∨ (mg h = none ∧ bootBuiltins h = some u)) ∧ RelV v u ∧ (∀ u', RelV v u' → u' = u) ∧ PySem.W.kitOne K cls u = some b
structure Good (pg : Pg) (k : Nat) (N : List Str) (XC : XCT) (sc : Scope) (X : Cx) : Prop where
  hN : X.N = N
  nd : N.Nodup
  calm : X.calm = true
  room : Room k X.A
  kind : X.env.scope.kind = .function
  vis : ∀ x, visB sc x = true → Vis X.env.scope x
  loc : ∀ x, locB sc x = true → Loc X.env.scope x ∧ (X.fn x = true ∨ X.env.scope.names.lookup x = some .local)
  lc : ∀ x, sc.names.lookup x = some .local → X.env.scope.names.lookup x = some .local
  cl : ∀ x, sc.names.lookup x = some .cell → X.env.scope.names.lookup x = some .cell
  gl : ∀ x, sc.names.lookup x = some .globalImplicit → Gl X x
  cap : ∀ x, sc.names.lookup x = some .cell ∨ sc.names.lookup x = some .free → X.env.scope.names.lookup x = some .cell ∨ X.env.scope.names.lookup x = some .free
  fns : ∀ f d, pg.fn f = some d → pg.cl f = none → ∃ a fdt ps, X.mg d.py = some (.ref a) ∧ PySem.W.keepIn X.K (.ref a) = true ∧ Binds X.K fdt ps [] ∧ FnOk X.prog X.w X.K X.mg X.base (L2.CX X.prog X.w) k a fdt ps (spF X.K XC pg k f)
  gls : ∀ x v, pg.gl x = some v → ∃ u V, X.mg x = some u ∧ RelV V u ∧ ∀ B μ H, Rep X.K B μ H v V
  blt : ∀ x, x ∈ bltNames → X.mg x = none
  fls : ∀ c f, flB pg c f = true → ∃ C, CA X.K c C ∧ Cls X.K C ∧ NoAttr X.K C f
  mts : ∀ f d c, pg.fn f = some d → pg.cl f = some c → ∃ C a fdt ps, CA X.K c C ∧ Cls X.K C ∧ Meth X.K C d.py a ∧ (Binds X.K fdt ps [] ∧ (pg.df f = true → Binds X.K fdt ps [.none])) ∧ FnOk X.prog X.w X.K X.mg X.base (L2.CX X.prog X.w) k a fdt ps (spF X.K XC pg k f)
  exs : ExOk X.K X.mg pg XC
  ups : ∀ k', k = k' + 1 → ∀ f d, pg.fn f = some d → pg.cl f = none → ∃ a fdt ps, X.mg d.py = some (.ref a) ∧ PySem.W.keepIn X.K (.ref a) = true ∧ Binds X.K fdt ps [] ∧ FnOk X.prog X.w X.K X.mg X.base (L2.CX X.prog X.w) k' a fdt ps (spF X.K XC pg k' f)
  mks : ∀ f c g, pg.mak f = some (c, g) → ∃ C a, CA X.K c C ∧ Mk X.K C a ∧ X.mg c = some (.ref C) ∧ ∀ k', k = k' + 1 → ∃ fdt ps, Binds X.K fdt ps [] ∧ FnOk X.prog X.w X.K X.mg X.base (L2.CX X.prog X.w) k' a fdt ps (spF X.K XC pg k' g)
section
variable {pg : Pg} {k : Nat} {N : List Str} {XC : XCT} {sc : Scope} {X : Cx}
theorem Good.glob (G : Good pg k N XC sc X) {x : Str} (h : glB sc x = true) : Gl X x ∧ (x == ("__debug__" : Str)) = false ∧ x ≠ "__name__" := by
  unfold glB at h
  split at h
  · rename_i e
    rw [Bool.and_eq_true, Bool.not_eq_true', Bool.not_eq_true'] at h
    exact ⟨G.gl x e, h.1, by simpa using h.2⟩
  · cases h
theorem Good.bmg (G : Good pg k N XC sc X) {x : Str} (h : bltNames.contains x = true) : X.mg x = none := G.blt x (by simpa using h)

def rdE (K : PySem.W.Frag) [Wd K] (XC : XCT) (W : WX) (pg : Pg) (k : Nat) (e : E) : TE := fun σ H Q => ∃ B μ h ρ, Rel K B μ h H ∧ Slots K B μ H ρ σ ∧ PostG K B XC W σ (Rep K B) Q (evE (run pg k) pg.gl e ρ h) μ H
def rdEs (K : PySem.W.Frag) [Wd K] (XC : XCT) (W : WX) (pg : Pg) (k : Nat) (e : Es) : TA := fun σ H Q => ∃ B μ h ρ, Rel K B μ h H ∧ Slots K B μ H ρ σ ∧ PostG K B XC W σ (Reps K B) Q (evEs (run pg k) pg.gl e ρ h) μ H
def rdO (K : PySem.W.Frag) [Wd K] (XC : XCT) (W : WX) (pg : Pg) (k : Nat) (e : Oe) : TO := fun σ H Q => ∃ B μ h ρ, Rel K B μ h H ∧ Slots K B μ H ρ σ ∧ PostG K B XC W σ (fun _ _ a b => a = b) Q (evO (run pg k) pg.gl e ρ h) μ H
def rdT (K : PySem.W.Frag) [Wd K] (XC : XCT) (W : WX) (pg : Pg) (k : Nat) (e : E) : TT := fun σ H Q => ∃ B μ h ρ, Rel K B μ h H ∧ Slots K B μ H ρ σ ∧
  PostG K B XC W σ (fun _ _ a b => a = b) Q (bnd (evE (run pg k) pg.gl e ρ h) fun x => bnd (truR x.1 x.2) fun t => .ok (t, x.2)) μ H
def rdAnd (K : PySem.W.Frag) [Wd K] (XC : XCT) (W : WX) (pg : Pg) (k : Nat) (e : Es) : TE := fun σ H Q => ∃ B μ h ρ, Rel K B μ h H ∧ Slots K B μ H ρ σ ∧ PostG K B XC W σ (Rep K B) Q (evAnd (run pg k) pg.gl e ρ h) μ H
def rdOr (K : PySem.W.Frag) [Wd K] (XC : XCT) (W : WX) (pg : Pg) (k : Nat) (e : Es) : TE := fun σ H Q => ∃ B μ h ρ, Rel K B μ h H ∧ Slots K B μ H ρ σ ∧ PostG K B XC W σ (Rep K B) Q (evOr (run pg k) pg.gl e ρ h) μ H
def rdAndT (K : PySem.W.Frag) [Wd K] (XC : XCT) (W : WX) (pg : Pg) (k : Nat) (e : Es) : TT := fun σ H Q => ∃ B μ h ρ, Rel K B μ h H ∧ Slots K B μ H ρ σ ∧
  PostG K B XC W σ (fun _ _ a b => a = b) Q (bnd (evAnd (run pg k) pg.gl e ρ h) fun x => bnd (truR x.1 x.2) fun t => .ok (t, x.2)) μ H
def rdOrT (K : PySem.W.Frag) [Wd K] (XC : XCT) (W : WX) (pg : Pg) (k : Nat) (e : Es) : TT := fun σ H Q => ∃ B μ h ρ, Rel K B μ h H ∧ Slots K B μ H ρ σ ∧
  PostG K B XC W σ (fun _ _ a b => a = b) Q (bnd (evOr (run pg k) pg.gl e ρ h) fun x => bnd (truR x.1 x.2) fun t => .ok (t, x.2)) μ H
theorem PE.imp {x : Expr} {t t' : TE} (h : PE X x t) (i : ∀ σ H Q, t' σ H Q → t σ H Q) : PE X x t' := ⟨fun pins s σ H Q I q => h.run pins s σ H Q I (i _ _ _ q)⟩
theorem PT.imp {x : Expr} {t t' : TT} (h : PT X x t) (i : ∀ σ H Q, t' σ H Q → t σ H Q) : PT X x t' := ⟨fun pins s σ H Q I q => h.run pins s σ H Q I (i _ _ _ q)⟩
theorem PW.imp {x : Expr} {t t' : TT} (h : PW X x t) (i : ∀ σ H Q, t' σ H Q → t σ H Q) : PW X x t' := ⟨fun wh pins s σ H Q I q => h.run wh pins s σ H Q I (i _ _ _ q)⟩
theorem PA.imp {x : List Expr} {t t' : TA} (h : PA X x t) (i : ∀ σ H Q, t' σ H Q → t σ H Q) : PA X x t' := ⟨fun pos pins s σ H Q I q => h.run pos pins s σ H Q I (i _ _ _ q)⟩
theorem PO.imp {x : Option Expr} {t t' : TO} (h : PO X x t) (i : ∀ σ H Q, t' σ H Q → t σ H Q) : PO X x t' := ⟨fun pins s σ H Q I q => h.run pins s σ H Q I (i _ _ _ q)⟩
/-- a test by its value -/
theorem pt_of {W : WX} {e : E} {x : Expr} (h : PE X x (rdE X.K XC W pg k e)) (ht : truHd x = true) : PT X x (rdT X.K XC W pg k e) := by
  refine PT.imp (pt_truth h (tru_plain ht X.env)) fun σ H Q hq => ?_
  obtain ⟨B, μ, h0, ρ, rl, sl, p⟩ := hq
  refine ⟨B, μ, h0, ρ, rl, sl, p.bnd fun v h1 y μ1 H1 _ _ rl1 rp1 p1 => ?_⟩
  obtain ⟨t, et, q⟩ := p1.fin fun c h' => truR_ex
  exact ⟨t, truth_ok rl1 rp1 (tru_some et), q t μ1 H1 .refl rl1 rfl⟩
end
end Rg

namespace Rg
open PySem PySem.Spec PyProof.Rows L2
section
variable {c : Str} {h' : MH}
theorem eqop_ex {a b : PV} {h : MH} : eqop a b h ≠ .error (.exc c h') := by
  unfold eqop
  split
  · intro z; cases z
  · split <;> (intro z; cases z)
theorem isop_ex {a b : PV} : isop a b ≠ .error (.exc c h') := by
  unfold isop; split <;> (intro z; cases z)
theorem inop_ex {a b : PV} {h : MH} : inop a b h ≠ .error (.exc c h') := by
  unfold inop inopS; repeat' split
  all_goals (intro z; cases z)
theorem bnd_ex {α β : Type} {x : R α} {f : α → R β} (hx : x ≠ .error (.exc c h')) (hf : ∀ a, f a ≠ .error (.exc c h')) : bnd x f ≠ .error (.exc c h') := by
  cases x with
  | ok a => exact hf a
  | error e => exact fun z => hx (by cases z; rfl)
theorem cmpop_ex {op : CmpOp} {a b : PV} {h : MH} : cmpop op a b h ≠ .error (.exc c h') := by
  cases op with
  | Eq => exact eqop_ex
  | NotEq => exact bnd_ex eqop_ex fun _ z => by cases z
  | Is => exact isop_ex
  | IsNot => exact bnd_ex isop_ex fun _ z => by cases z
  | In => exact inop_ex
  | NotIn => exact bnd_ex inop_ex fun _ z => by cases z
  | Lt => unfold cmpop; simp only; (repeat' split) <;> (intro z; cases z)
  | LtE => unfold cmpop; simp only; (repeat' split) <;> first | (intro z; cases z; done) | (unfold leN; (repeat' split) <;> (intro z; cases z))
  | Gt => unfold cmpop; simp only; (repeat' split) <;> (intro z; cases z)
  | GtE => unfold cmpop; simp only; (repeat' split) <;> (intro z; cases z)
theorem binop_ex {op : Operator} {a b : PV} {h : MH} : binop op a b h ≠ .error (.exc c h') := by
  cases op <;> (unfold binop; simp only; (repeat' split) <;> (intro z; cases z))
theorem idxop_ex {a b : PV} {h : MH} : idxop a b h ≠ .error (.exc c h') := by
  unfold idxop idxopS; (repeat' split) <;> (intro z; cases z)
theorem slcop_ex {a : PV} {lo hi : Option Int} {h : MH} : slcop a lo hi h ≠ .error (.exc c h') := by
  unfold slcop; (repeat' split) <;> (intro z; cases z)
theorem sortT_ex {l : List PV} : sortT l ≠ .error (.exc c h') := by
  unfold sortT; (repeat' split) <;> (intro z; cases z)
theorem sortop_ex {v : PV} {h : MH} : sortop v h ≠ .error (.exc c h') := by
  unfold sortop; (repeat' split) <;> first | exact sortT_ex | (intro z; cases z)
theorem bltop_ex {f : Bf} {vs : List PV} {h : MH} : bltop f vs h ≠ .error (.exc c h') := by
  cases f <;> (unfold bltop; simp only; (repeat' split) <;> first | exact sortop_ex | (intro z; cases z))
theorem mthop_ex {m : Mf} {o : PV} {vs : List PV} {h : MH} : mthop m o vs h ≠ .error (.exc c h') := by
  cases m <;> (unfold mthop; simp only; (repeat' split) <;> (intro z; cases z))
end

section
variable {pg : Pg} {k : Nat} {N : List Str} {XC : XCT} {sc : Scope} {X : Cx} {W : WX} {pos : Pos}
theorem nmB_ok {i : Nat} {x : Str} (G : Good pg k N XC sc X) (h : nmB N sc i x = true) : X.N[i]? = some x ∧ Vis X.env.scope x ∧ (x == ("__debug__" : Str)) = false ∧ (x == ("__classdict__" : Str)) = false := by
  unfold nmB at h
  simp only [Bool.and_eq_true, decide_eq_true_eq, Bool.not_eq_true'] at h
  exact ⟨by rw [G.hN]; exact h.1.1.1, G.vis x h.1.1.2, h.1.2, h.2⟩
theorem s_var {i : Nat} {x : Str} (G : Good pg k N XC sc X) (h : nmB N sc i x = true) : PE X (.Name x pos) (rdE X.K XC W pg k (.var i)) := by
  obtain ⟨h1, h2, h3, h4⟩ := nmB_ok G h
  refine PE.imp (pe_var h1 h2 h3 h4) fun σ H Q hq => ?_
  obtain ⟨B, μ, h0, ρ, rl, sl, p⟩ := hq
  simp only [evE] at p
  split at p
  · rename_i v e
    obtain ⟨y, ey, ry⟩ := sl.2 i v e
    exact ⟨y, ey, p y μ H .refl rl ry⟩
  · exact p.elim
theorem s_glb {x : Str} (G : Good pg k N XC sc X) (h : glB sc x = true) : PE X (.Name x pos) (rdE X.K XC W pg k (.glb x)) := by
  obtain ⟨g1, g2, _⟩ := G.glob h
  cases e : pg.gl x with
  | none =>
    refine ⟨fun pins s σ H Q I hq => ?_⟩
    obtain ⟨B, μ, h0, ρ, rl, sl, p⟩ := hq
    simp only [evE, e] at p
    exact p.elim
  | some v =>
    obtain ⟨u, V, hm, ru, rp⟩ := G.gls x v e
    refine PE.imp (pe_glob g1 hm ru g2) fun σ H Q hq => ?_
    obtain ⟨B, μ, h0, ρ, rl, sl, p⟩ := hq
    simp only [evE, e] at p
    exact p V μ H .refl rl (rp B μ H)
theorem s_two {a b : E} {x y : Expr} (iha : PE X x (rdE X.K XC W pg k a)) (ihb : PE X y (rdE X.K XC W pg k b)) {T2 : V → V → Hp → VK → Prop} {f : PV → PV → MH → R (PV × MH)} {e : E} (he : ∀ ρ h, evE (run pg k) pg.gl e ρ h = bnd (evE (run pg k) pg.gl a ρ h) fun x => bnd (evE (run pg k) pg.gl b ρ x.2) fun y => f x.1 y.1 y.2)
    (hR : ∀ σ B μ h H v u x y Q, Rel X.K B μ h H → Rep X.K B μ H v x → Rep X.K B μ H u y → PostG X.K B XC W σ (Rep X.K B) Q (f v u h) μ H → T2 x y H Q) :
    ∀ σ H Q, rdE X.K XC W pg k e σ H Q → tOp T2 (rdE X.K XC W pg k a) (rdE X.K XC W pg k b) σ H Q := fun σ H Q hq => by
  obtain ⟨B, μ, h0, ρ, rl, sl, p⟩ := hq
  rw [he] at p
  refine ⟨B, μ, h0, ρ, rl, sl, p.bnd fun v h1 x1 μ1 H1 _ st1 rl1 rp1 p1 => ?_⟩
  refine ⟨B, μ1, h1, ρ, rl1, sl.step st1, p1.bnd fun u h2 y2 μ2 H2 _ st2 rl2 rp2 p2 => ?_⟩
  exact hR σ B μ2 h2 H2 v u x1 y2 Q rl2 (rp1.step st2) rp2 p2
theorem s_bin {op : Operator} {a b : E} {x y : Expr} (iha : PE X x (rdE X.K XC W pg k a)) (ihb : PE X y (rdE X.K XC W pg k b)) : PE X (.BinOp x op y pos) (rdE X.K XC W pg k (.bin op a b)) := by
  refine PE.imp (pe_op (op_bin op) iha ihb) (s_two iha ihb (f := fun v u h => bnd (binop op v u h) fun w => .ok (w, h)) (fun ρ h => by simp only [evE]) fun σ B μ h H v u x y Q rl r1 r2 p => ?_)
  obtain ⟨w, ew, q⟩ := p.fin fun c h' => binop_ex
  exact ⟨B, μ, h, v, u, w, rl, r1, r2, ew, q⟩
theorem s_cmp {op : CmpOp} {a b : E} {x y : Expr} (G : Good pg k N XC sc X) (iha : PE X x (rdE X.K XC W pg k a)) (ihb : PE X y (rdE X.K XC W pg k b)) (hp : plainHd y = true) :
    PE X (.Compare x [op] [y] pos) (rdE X.K XC W pg k (.cmp op a b)) ∧ PT X (.Compare x [op] [y] pos) (rdT X.K XC W pg k (.cmp op a b)) := by
  have hu := G.room.units
  have two := @s_two pg k XC X W a b x y iha ihb (rC X.K op) (fun v u h => bnd (cmpop op v u h) fun w => .ok (PV.bl w, h)) (.cmp op a b) (fun ρ h => by simp only [evE]) fun σ B μ h H v u x y Q rl r1 r2 p => by
    obtain ⟨w, ew, q⟩ : ∃ w, cmpop op v u h = .ok w ∧ Q (.bl w) H := by
      cases e : cmpop op v u h with
      | ok w => rw [e] at p; exact ⟨w, rfl, p (.bl w) μ H .refl rl .bl⟩
      | error er =>
        rw [e] at p
        cases er with
        | stuck => exact p.elim
        | exc c h' => exact absurd e cmpop_ex
    exact ⟨B, μ, h, v, u, w, rl, r1, r2, ew, q⟩
  refine ⟨PE.imp (pe_cmpR (op_cmp hu op) iha ihb (plain_in hp op)) two, PT.imp (pt_cmpR (op_cmp hu op) iha ihb (plain_in hp op)) fun σ H Q hq => ?_⟩
  refine two σ H (fun z H' => ∃ k, z = .bl k ∧ Q k H') ?_
  obtain ⟨B, μ, h0, ρ, rl, sl, p⟩ := hq
  refine ⟨B, μ, h0, ρ, rl, sl, p.bnd fun v h1 x1 μ1 H1 e1 st1 rl1 rp1 p1 => ?_⟩
  obtain ⟨t, et, q⟩ := p1.fin fun c h' => truR_ex
  simp only [evE] at e1
  obtain ⟨⟨va, ha⟩, ea, e1⟩ := bnd_eq_ok e1
  obtain ⟨⟨vb, hb⟩, eb, e1⟩ := bnd_eq_ok e1
  obtain ⟨w, ew, e1⟩ := bnd_eq_ok e1
  cases e1
  simp only [truR, truth, Except.ok.injEq] at et
  subst et
  exact ⟨w, Rep.bl_iff.mp rp1, q w μ1 H1 .refl rl1 rfl⟩
theorem s_chn {o1 o2 : CmpOp} {a b c : E} {x y z : Expr} (G : Good pg k N XC sc X) (iha : PE X x (rdE X.K XC W pg k a)) (ihb : PE X y (rdE X.K XC W pg k b)) (ihc : PE X z (rdE X.K XC W pg k c)) (hp : plainHd y = true) (hp2 : plainHd z = true) :
    PE X (.Compare x [o1, o2] [y, z] pos) (rdE X.K XC W pg k (.chn o1 o2 a b c)) ∧ PT X (.Compare x [o1, o2] [y, z] pos) (rdT X.K XC W pg k (.chn o1 o2 a b c)) := by
  have hu := G.room.units
  have hm : lastMarks [o1, o2] [y, z] = false := plain_in hp2 o2
  have main : ∀ σ H Q, rdE X.K XC W pg k (.chn o1 o2 a b c) σ H Q → tChain (rC X.K o1) (rC X.K o2) (rdE X.K XC W pg k a) (rdE X.K XC W pg k b) (rdE X.K XC W pg k c) σ H Q := fun σ H Q hq => by
    obtain ⟨B, μ, h0, ρ, rl, sl, p⟩ := hq
    simp only [evE] at p
    refine ⟨B, μ, h0, ρ, rl, sl, p.bnd fun v h1 x1 μ1 H1 _ st1 rl1 rp1 p1 => ?_⟩
    refine ⟨B, μ1, h1, ρ, rl1, sl.step st1, p1.bnd fun u h2 y2 μ2 H2 _ st2 rl2 rp2 p2 => ?_⟩
    cases e : cmpop o1 v u h2 with
    | error er =>
      rw [e] at p2
      cases er with
      | stuck => exact p2.elim
      | exc c h' => exact absurd e cmpop_ex
    | ok w =>
      rw [e] at p2
      refine ⟨B, μ2, h2, v, u, w, rl2, rp1.step st2, rp2, e, w, rfl, ?_⟩
      cases w with
      | false =>
        rw [if_neg Bool.false_ne_true]
        exact p2 (.bl false) μ2 H2 .refl rl2 .bl
      | true =>
        rw [if_pos rfl]
        rw [bnd_ok, if_pos rfl] at p2
        refine ⟨B, μ2, h2, ρ, rl2, (sl.step st1).step st2, PostG.bnd (f := fun z => bnd (cmpop o2 u z.1 z.2) fun v => .ok (PV.bl v, z.2)) p2 fun t h3 z3 μ3 H3 _ st3 rl3 rp3 p3 => ?_⟩
        obtain ⟨w2, ew, q⟩ : ∃ w, cmpop o2 u t h3 = .ok w ∧ Q (.bl w) H3 := by
          cases e : cmpop o2 u t h3 with
          | ok w => simp only [e] at p3; exact ⟨w, rfl, p3 (.bl w) μ3 H3 .refl rl3 .bl⟩
          | error er =>
            simp only [e] at p3
            cases er with
            | stuck => exact p3.elim
            | exc c h' => exact absurd e cmpop_ex
        exact ⟨B, μ3, h3, u, t, w2, rl3, rp2.step st3, rp3, ew, q⟩
  refine ⟨PE.imp (pe_chain (op_cmp hu o1) (op_cmp hu o2) iha ihb ihc hm) main, PT.imp (pt_chain (op_cmp hu o1) (op_cmp hu o2) iha ihb ihc hm) fun σ H Q hq => ?_⟩
  refine main σ H (fun z H' => ∃ k, z = .bl k ∧ Q k H') ?_
  obtain ⟨B, μ, h0, ρ, rl, sl, p⟩ := hq
  refine ⟨B, μ, h0, ρ, rl, sl, p.bnd fun v h1 x1 μ1 H1 e1 st1 rl1 rp1 p1 => ?_⟩
  obtain ⟨t, et, q⟩ := p1.fin fun c h' => truR_ex
  have hv : ∃ w, v = .bl w := by
    simp only [evE] at e1
    obtain ⟨⟨va, ha⟩, ea, e1⟩ := bnd_eq_ok e1
    obtain ⟨⟨vb, hb⟩, eb, e1⟩ := bnd_eq_ok e1
    obtain ⟨w, ew, e1⟩ := bnd_eq_ok e1
    cases w with
    | false => cases e1; exact ⟨_, rfl⟩
    | true =>
      obtain ⟨⟨vc, hc⟩, ec, e1⟩ := bnd_eq_ok e1
      obtain ⟨w, ew, e1⟩ := bnd_eq_ok e1
      cases e1; exact ⟨_, rfl⟩
  obtain ⟨w, rfl⟩ := hv
  simp only [truR, truth, Except.ok.injEq] at et
  subst et
  exact ⟨w, Rep.bl_iff.mp rp1, q w μ1 H1 .refl rl1 rfl⟩
theorem s_not {a : E} {x : Expr} (iha : PE X x (rdE X.K XC W pg k a)) (ita : PT X x (rdT X.K XC W pg k a)) : PE X (.UnaryOp .Not x pos) (rdE X.K XC W pg k (.not a)) ∧ PT X (.UnaryOp .Not x pos) (rdT X.K XC W pg k (.not a)) := by
  refine ⟨PE.imp (pe_notT iha) fun σ H Q hq => ?_, PT.imp (pt_not ita) fun σ H Q hq => ?_⟩
  · obtain ⟨B, μ, h0, ρ, rl, sl, p⟩ := hq
    simp only [evE] at p
    refine ⟨B, μ, h0, ρ, rl, sl, p.bnd fun v h1 x1 μ1 H1 _ st1 rl1 rp1 p1 => ?_⟩
    cases e : truR v h1 with
    | error er =>
      simp only [e] at p1
      cases er with
      | stuck => exact p1.elim
      | exc c h' => exact absurd e truR_ex
    | ok b =>
      simp only [e] at p1
      exact ⟨b, truth_ok rl1 rp1 (tru_some e), p1 (.bl (!b)) μ1 H1 .refl rl1 .bl⟩
  · obtain ⟨B, μ, h0, ρ, rl, sl, p⟩ := hq
    simp only [evE] at p
    refine ⟨B, μ, h0, ρ, rl, sl, ?_⟩
    cases ee : evE (run pg k) pg.gl a ρ h0 with
    | error er =>
      rw [ee] at p
      cases er with
      | stuck => exact p.elim
      | exc c h' => exact p
    | ok r =>
      obtain ⟨v, h1⟩ := r
      rw [ee] at p
      rw [bnd_ok] at p ⊢
      cases e : truR v h1 with
      | error er =>
        simp only [e] at p
        cases er with
        | stuck => exact p.elim
        | exc c h' => exact absurd e truR_ex
      | ok b =>
        have et : truR (.bl !b) h1 = .ok (!b) := rfl
        simp only [e, bnd_ok, et] at p
        simp only [e, bnd_ok]
        intro y μ1 H1 st rl1 ey
        subst ey
        exact p (!b) μ1 H1 st rl1 rfl
theorem s_neg {a : E} {x : Expr} (iha : PE X x (rdE X.K XC W pg k a)) : PE X (.UnaryOp .USub x pos) (rdE X.K XC W pg k (.neg a)) := by
  refine PE.imp (pe_un un_neg iha) fun σ H Q hq => ?_
  obtain ⟨B, μ, h0, ρ, rl, sl, p⟩ := hq
  simp only [evE] at p
  refine ⟨B, μ, h0, ρ, rl, sl, p.bnd fun v h1 x1 μ1 H1 _ st1 rl1 rp1 p1 => ?_⟩
  simp only at p1
  split at p1
  · exact ⟨_, Rep.int_iff.mp rp1, p1 _ μ1 H1 .refl rl1 .int⟩
  · exact p1.elim
theorem s_idx {a b : E} {x y : Expr} (hu : X.A.units + 64 < cLine) (iha : PE X x (rdE X.K XC W pg k a)) (ihb : PE X y (rdE X.K XC W pg k b)) (hp : plainHd y = true) : PE X (.Subscript x y pos) (rdE X.K XC W pg k (.idx a b)) := by
  refine PE.imp (pe_ix (ix_rule hu) iha ihb (plain_ix hp)) (s_two iha ihb (f := fun v u h => bnd (idxop v u h) fun w => .ok (w, h)) (fun ρ h => by simp only [evE]) fun σ B μ h H v u x y Q rl r1 r2 p => ?_)
  obtain ⟨w, ew, q⟩ := p.fin fun c h' => idxop_ex
  exact ⟨B, μ, h, v, u, w, rl, r1, r2, ew, q⟩
theorem s_slc {a : E} {lo hi : Oe} {x : Expr} {l u : Option Expr} {p2 : Pos} (iha : PE X x (rdE X.K XC W pg k a)) (ihl : PO X l (rdO X.K XC W pg k lo)) (ihh : PO X u (rdO X.K XC W pg k hi)) : PE X (.Subscript x (.Slice l u none p2) pos) (rdE X.K XC W pg k (.slc a lo hi)) := by
  refine PE.imp (pe_slice sl_rule iha ihl ihh) fun σ H Q hq => ?_
  obtain ⟨B, μ, h0, ρ, rl, sl, p⟩ := hq
  simp only [evE] at p
  refine ⟨B, μ, h0, ρ, rl, sl, p.bnd fun v h1 x1 μ1 H1 _ st1 rl1 rp1 p1 => ?_⟩
  refine ⟨B, μ1, h1, ρ, rl1, sl.step st1, p1.bnd fun ol h2 y2 μ2 H2 _ st2 rl2 rp2 p2 => ?_⟩
  refine ⟨B, μ2, h2, ρ, rl2, (sl.step st1).step st2, p2.bnd fun ou h3 y3 μ3 H3 _ st3 rl3 rp3 p3 => ?_⟩
  subst rp2 rp3
  obtain ⟨w, ew, q⟩ := p3.fin fun c h' => slcop_ex
  exact ⟨B, μ3, h3, v, w, rl3, (rp1.step st2).step st3, ew, q⟩
theorem s_onone : PO X none (rdO X.K XC W pg k .no) := by
  refine PO.imp po_none fun σ H Q hq => ?_
  obtain ⟨B, μ, h0, ρ, rl, sl, p⟩ := hq
  simp only [evO] at p
  exact p none μ H .refl rl rfl
theorem s_osome {e : E} {x : Expr} (ih : PE X x (rdE X.K XC W pg k e)) : PO X (some x) (rdO X.K XC W pg k (.yes e)) := by
  refine PO.imp (po_some ih) fun σ H Q hq => ?_
  obtain ⟨B, μ, h0, ρ, rl, sl, p⟩ := hq
  simp only [evO] at p
  refine ⟨B, μ, h0, ρ, rl, sl, p.bnd fun v h1 x1 μ1 H1 _ st1 rl1 rp1 p1 => ?_⟩
  simp only at p1
  split at p1
  · exact ⟨_, Rep.int_iff.mp rp1, p1 _ μ1 H1 .refl rl1 rfl⟩
  · exact p1.elim
theorem s_anil : PA X [] (rdEs X.K XC W pg k .nil) := by
  refine PA.imp pa_nil fun σ H Q hq => ?_
  obtain ⟨B, μ, h0, ρ, rl, sl, p⟩ := hq
  simp only [evEs] at p
  exact p [] μ H .refl rl .nil
theorem s_acons {e : E} {es : Es} {x : Expr} {xs : List Expr} (ih : PE X x (rdE X.K XC W pg k e)) (ihs : PA X xs (rdEs X.K XC W pg k es)) (hp : plainHd x = true) : PA X (x :: xs) (rdEs X.K XC W pg k (.cons e es)) := by
  refine PA.imp (pa_cons ih ihs (plain_star hp xs _)) fun σ H Q hq => ?_
  obtain ⟨B, μ, h0, ρ, rl, sl, p⟩ := hq
  simp only [evEs] at p
  refine ⟨B, μ, h0, ρ, rl, sl, p.bnd fun v h1 x1 μ1 H1 _ st1 rl1 rp1 p1 => ?_⟩
  refine ⟨B, μ1, h1, ρ, rl1, sl.step st1, p1.bnd fun u h2 y2 μ2 H2 _ st2 rl2 rp2 p2 => ?_⟩
  exact p2 (x1 :: y2) μ2 H2 .refl rl2 (.cons (rp1.step st2) rp2)
/-- how long an argument list's values are -/
theorem evEs_len {cal : Cal} {gl : Gls} : ∀ {es : Es} {ρ : Slts} {h : MH} {vs : List PV} {h' : MH}, evEs cal gl es ρ h = .ok (vs, h') → vs.length = esLen es
  | .nil, _, _, _, _, e => by simp only [evEs] at e; cases e; rfl
  | .cons a es, ρ, h, _, _, e => by
    simp only [evEs] at e
    obtain ⟨⟨v, h1⟩, _, e⟩ := bnd_eq_ok e
    obtain ⟨⟨vs, h2⟩, e2, e⟩ := bnd_eq_ok e
    cases e
    simp only [esLen, List.length_cons, evEs_len e2]
end
end Rg

namespace Rg
open PySem PySem.Spec PyProof.Rows L2
section
variable {pg : Pg} {k : Nat} {N : List Str} {XC : XCT} {sc : Scope} {X : Cx} {W : WX} {pos : Pos}
theorem PostG.at {α β : Type} {K : PySem.W.Frag} [Wd K] {B : List Addr} {σ : L2.St} {rel : List Addr → Hp → α → β → Prop} {Q : β → Hp → Prop} {r : R (α × MH)} {μ : List Addr} {H : Hp} (p : PostG K B XC W σ rel Q r μ H) :
    PostG K B XC (fun cls d _ H' => W cls d σ H') [] rel Q r μ H := by
  match r, p with
  | .ok (v, h'), p => exact p
  | .error .stuck, p => exact p
  | .error (.exc c h'), p => exact p
theorem tru_split {α β : Type} {σ : L2.St} {B : List Addr} {rel : List Addr → Hp → α → β → Prop} {Q : β → Hp → Prop} {v : PV} {h : MH} {f : Bool → R (α × MH)} {μ : List Addr} {H : Hp} (p : PostG X.K B XC W σ rel Q (bnd (truR v h) f) μ H) :
    ∃ b, truR v h = .ok b ∧ PostG X.K B XC W σ rel Q (f b) μ H := by
  cases e : truR v h with
  | ok b => rw [e] at p; exact ⟨b, rfl, p⟩
  | error er =>
    rw [e] at p
    cases er with
    | stuck => exact p.elim
    | exc c h' => exact absurd e truR_ex
theorem s_and1 {e : E} {x : Expr} (ih : PE X x (rdE X.K XC W pg k e)) (it : PT X x (rdT X.K XC W pg k e)) : PE X (.BoolOp .And [x] pos) (rdAnd X.K XC W pg k (.cons e .nil)) ∧ PW X (.BoolOp .And [x] pos) (rdAndT X.K XC W pg k (.cons e .nil)) := by
  have ev : ∀ ρ h, evAnd (run pg k) pg.gl (.cons e .nil) ρ h = evE (run pg k) pg.gl e ρ h := fun ρ h => by
    simp only [evAnd]
    cases evE (run pg k) pg.gl e ρ h <;> rfl
  refine ⟨PE.imp (pe_one ih) fun σ H Q hq => ?_, PW.imp (pw_and1 it) fun σ H Q hq => ?_⟩
  · obtain ⟨B, μ, h0, ρ, rl, sl, p⟩ := hq
    rw [ev] at p
    exact ⟨B, μ, h0, ρ, rl, sl, p⟩
  · obtain ⟨B, μ, h0, ρ, rl, sl, p⟩ := hq
    rw [ev] at p
    exact ⟨B, μ, h0, ρ, rl, sl, p⟩
theorem s_or1 {e : E} {x : Expr} (ih : PE X x (rdE X.K XC W pg k e)) (it : PT X x (rdT X.K XC W pg k e)) : PE X (.BoolOp .Or [x] pos) (rdOr X.K XC W pg k (.cons e .nil)) ∧ PW X (.BoolOp .Or [x] pos) (rdOrT X.K XC W pg k (.cons e .nil)) := by
  have ev : ∀ ρ h, evOr (run pg k) pg.gl (.cons e .nil) ρ h = evE (run pg k) pg.gl e ρ h := fun ρ h => by
    simp only [evOr]
    cases evE (run pg k) pg.gl e ρ h <;> rfl
  refine ⟨PE.imp (pe_one ih) fun σ H Q hq => ?_, PW.imp (pw_or1 it) fun σ H Q hq => ?_⟩
  · obtain ⟨B, μ, h0, ρ, rl, sl, p⟩ := hq
    rw [ev] at p
    exact ⟨B, μ, h0, ρ, rl, sl, p⟩
  · obtain ⟨B, μ, h0, ρ, rl, sl, p⟩ := hq
    rw [ev] at p
    exact ⟨B, μ, h0, ρ, rl, sl, p⟩
theorem s_andc {e e2 : E} {es : Es} {x y : Expr} {ys : List Expr} (ih : PE X x (rdE X.K XC W pg k e)) (it : PT X x (rdT X.K XC W pg k e))
    (jh : PE X (.BoolOp .And (y :: ys) pos) (rdAnd X.K XC W pg k (.cons e2 es)) ∧ PW X (.BoolOp .And (y :: ys) pos) (rdAndT X.K XC W pg k (.cons e2 es))) :
    PE X (.BoolOp .And (x :: y :: ys) pos) (rdAnd X.K XC W pg k (.cons e (.cons e2 es))) ∧ PW X (.BoolOp .And (x :: y :: ys) pos) (rdAndT X.K XC W pg k (.cons e (.cons e2 es))) := by
  have ev : ∀ ρ h, evAnd (run pg k) pg.gl (.cons e (.cons e2 es)) ρ h = bnd (evE (run pg k) pg.gl e ρ h) fun x => bnd (truR x.1 x.2) fun t => if t = true then evAnd (run pg k) pg.gl (.cons e2 es) ρ x.2 else .ok x := fun ρ h => by
    rw [evAnd]
  refine ⟨PE.imp (pe_andT ih jh.1) fun σ H Q hq => ?_, PW.imp (pw_and it jh.2) fun σ H Q hq => ?_⟩
  · obtain ⟨B, μ, h0, ρ, rl, sl, p⟩ := hq
    rw [ev] at p
    refine ⟨B, μ, h0, ρ, rl, sl, p.bnd fun v h1 x1 μ1 H1 _ st1 rl1 rp1 p1 => ?_⟩
    obtain ⟨b, eb, p1⟩ := tru_split p1
    refine ⟨b, truth_ok rl1 rp1 (tru_some eb), ?_⟩
    cases b with
    | true => rw [if_pos rfl] at p1 ⊢; exact ⟨B, μ1, h1, ρ, rl1, sl.step st1, p1⟩
    | false => rw [if_neg Bool.false_ne_true] at p1 ⊢; exact p1 x1 μ1 H1 .refl rl1 rp1
  · obtain ⟨B, μ, h0, ρ, rl, sl, p⟩ := hq
    rw [ev] at p
    refine ⟨B, μ, h0, ρ, rl, sl, ?_⟩
    cases ee : evE (run pg k) pg.gl e ρ h0 with
    | error er =>
      rw [ee] at p
      cases er with
      | stuck => exact p.elim
      | exc c h' => exact p
    | ok r =>
      obtain ⟨v, h1⟩ := r
      simp only [ee, bnd_ok] at p
      rw [bnd_ok]
      cases eb : truR v h1 with
      | error er =>
        simp only [eb, bnd_err] at p
        cases er with
        | stuck => exact p.elim
        | exc c h' => exact absurd eb truR_ex
      | ok b =>
        simp only [eb, bnd_ok] at p
        simp only [eb, bnd_ok]
        intro t μ1 H1 st1 rl1 et
        subst et
        cases b with
        | true =>
          rw [if_pos rfl] at p ⊢
          exact ⟨B, μ1, h1, ρ, rl1, sl.step st1, p.step st1⟩
        | false =>
          rw [if_neg Bool.false_ne_true] at p ⊢
          simp only [bnd_ok, eb] at p
          exact p false μ1 H1 st1 rl1 rfl
theorem s_orc {e e2 : E} {es : Es} {x y : Expr} {ys : List Expr} (ih : PE X x (rdE X.K XC W pg k e)) (it : PT X x (rdT X.K XC W pg k e))
    (jh : PE X (.BoolOp .Or (y :: ys) pos) (rdOr X.K XC W pg k (.cons e2 es)) ∧ PW X (.BoolOp .Or (y :: ys) pos) (rdOrT X.K XC W pg k (.cons e2 es))) :
    PE X (.BoolOp .Or (x :: y :: ys) pos) (rdOr X.K XC W pg k (.cons e (.cons e2 es))) ∧ PW X (.BoolOp .Or (x :: y :: ys) pos) (rdOrT X.K XC W pg k (.cons e (.cons e2 es))) := by
  have ev : ∀ ρ h, evOr (run pg k) pg.gl (.cons e (.cons e2 es)) ρ h = bnd (evE (run pg k) pg.gl e ρ h) fun x => bnd (truR x.1 x.2) fun t => if t = true then .ok x else evOr (run pg k) pg.gl (.cons e2 es) ρ x.2 := fun ρ h => by
    rw [evOr]
  refine ⟨PE.imp (pe_orT ih jh.1) fun σ H Q hq => ?_, PW.imp (pw_or it jh.2) fun σ H Q hq => ?_⟩
  · obtain ⟨B, μ, h0, ρ, rl, sl, p⟩ := hq
    rw [ev] at p
    refine ⟨B, μ, h0, ρ, rl, sl, p.bnd fun v h1 x1 μ1 H1 _ st1 rl1 rp1 p1 => ?_⟩
    obtain ⟨b, eb, p1⟩ := tru_split p1
    refine ⟨b, truth_ok rl1 rp1 (tru_some eb), ?_⟩
    cases b with
    | false => rw [if_neg Bool.false_ne_true] at p1 ⊢; exact ⟨B, μ1, h1, ρ, rl1, sl.step st1, p1⟩
    | true => rw [if_pos rfl] at p1 ⊢; exact p1 x1 μ1 H1 .refl rl1 rp1
  · obtain ⟨B, μ, h0, ρ, rl, sl, p⟩ := hq
    rw [ev] at p
    refine ⟨B, μ, h0, ρ, rl, sl, ?_⟩
    cases ee : evE (run pg k) pg.gl e ρ h0 with
    | error er =>
      rw [ee] at p
      cases er with
      | stuck => exact p.elim
      | exc c h' => exact p
    | ok r =>
      obtain ⟨v, h1⟩ := r
      simp only [ee, bnd_ok] at p
      rw [bnd_ok]
      cases eb : truR v h1 with
      | error er =>
        simp only [eb, bnd_err] at p
        cases er with
        | stuck => exact p.elim
        | exc c h' => exact absurd eb truR_ex
      | ok b =>
        simp only [eb, bnd_ok] at p
        simp only [eb, bnd_ok]
        intro t μ1 H1 st1 rl1 et
        subst et
        cases b with
        | false =>
          rw [if_neg Bool.false_ne_true] at p ⊢
          exact ⟨B, μ1, h1, ρ, rl1, sl.step st1, p.step st1⟩
        | true =>
          rw [if_pos rfl] at p ⊢
          simp only [bnd_ok, eb] at p
          exact p true μ1 H1 st1 rl1 rfl

theorem s_len {n : Nat} (h : n ≤ 1000) : n ≤ sizeLine := Nat.le_trans h (by rw [sizeLine_eq]; decide)
theorem s_tup {es : Es} {xs : List Expr} {x1 : Nat} (ih : PA X xs (rdEs X.K XC W pg k es)) (hl : esLen es ≤ 1000) : PE X (.Tuple xs x1 pos) (rdE X.K XC W pg k (.tup es)) := by
  refine PE.imp (pe_tup ih) fun σ H Q hq => ?_
  obtain ⟨B, μ, h0, ρ, rl, sl, p⟩ := hq
  simp only [evE] at p
  refine ⟨B, μ, h0, ρ, rl, sl, p.bnd fun vs h1 ys μ1 H1 e1 st1 rl1 rp1 p1 => ?_⟩
  refine ⟨by rw [← rp1.length, evEs_len e1]; exact s_len hl, fun q hq => ?_⟩
  exact p1 (.ref q) μ1 _ (.new hq) (rl1.new hq) (.newTup rl1 hq rp1)
theorem s_lst {es : Es} {xs : List Expr} (ih : PA X xs (rdEs X.K XC W pg k es)) (hl : esLen es ≤ 1000) : PE X (.List xs pos) (rdE X.K XC W pg k (.lst es)) := by
  refine PE.imp (pe_lst ih) fun σ H Q hq => ?_
  obtain ⟨B, μ, h0, ρ, rl, sl, p⟩ := hq
  simp only [evE] at p
  refine ⟨B, μ, h0, ρ, rl, sl, p.bnd fun vs h1 ys μ1 H1 e1 st1 rl1 rp1 p1 => ?_⟩
  refine ⟨by rw [← rp1.length, evEs_len e1]; exact s_len hl, fun q hq => ?_⟩
  exact p1 (.ref q) μ1 _ (.new hq) (rl1.new hq) (.newLst rl1 hq rp1)
theorem s_lstM {es : Es} {xs : List Expr} (ih : PA X xs (rdEs X.K XC W pg k es)) (hl : esLen es ≤ 1000) : PE X (.List xs pos) (rdE X.K XC W pg k (.lstM es)) := by
  refine PE.imp (pe_lst ih) fun σ H Q hq => ?_
  obtain ⟨B, μ, h0, ρ, rl, sl, p⟩ := hq
  simp only [evE] at p
  refine ⟨B, μ, h0, ρ, rl, sl, p.bnd fun vs h1 ys μ1 H1 e1 st1 rl1 rp1 p1 => ?_⟩
  refine ⟨by rw [← rp1.length, evEs_len e1]; exact s_len hl, fun q hq => ?_⟩
  exact p1 (.ref q) (μ1 ++ [q]) _ (.newCell hq) (rl1.newCell hq rp1) (Step.newRef rl1)
theorem rep_flat {α : Type} (v : α) : ∀ n : Nat, (List.replicate n [v]).flatten = List.replicate n v
  | 0 => rfl
  | n + 1 => by rw [List.replicate_succ, List.flatten_cons, rep_flat v n]; rfl
theorem reps_rep {K : PySem.W.Frag} [Wd K] {B μ : List Addr} {H : Hp} {v : PV} {x : V} (r : Rep K B μ H v x) : ∀ n : Nat, Reps K B μ H (List.replicate n v) (List.replicate n x)
  | 0 => .nil
  | n + 1 => .cons r (reps_rep r n)
theorem s_lrep {e : E} {n : Nat} {x : Expr} {p1 p2 : Pos} {cs : Nat} (ih : PE X x (rdE X.K XC W pg k e)) (hp : plainHd x = true) (hn : n ≤ 1000) : PE X (.BinOp (.List [x] p1) .Mult (.Constant (.int (n : Int)) cs p2) pos) (rdE X.K XC W pg k (.lrep e n)) := by
  refine PE.imp (pe_op op_rep (pe_lst (pa_cons ih pa_nil (plain_star hp _ _))) pe_int) fun σ H Q hq => ?_
  obtain ⟨B, μ, h0, ρ, rl, sl, p⟩ := hq
  simp only [evE] at p
  refine ⟨B, μ, h0, ρ, rl, sl, p.bnd fun v h1 y μ1 H1 e1 st1 rl1 rp1 p1 => ?_⟩
  refine ⟨s_len (by show 1 ≤ 1000; decide), fun q hq => ?_⟩
  have rl2 := rl1.new (o := .lst [y]) hq
  have sz : (1000 : Nat) ≤ sizeLine := s_len (Nat.le_refl _)
  refine ⟨q, (n : Int), [y], rfl, rfl, upd_same, by omega, by omega, by simp only [List.length_singleton, Int.toNat_natCast]; omega, fun p hp => ?_⟩
  rw [Int.toNat_natCast, rep_flat]
  exact p1 (.ref p) (μ1 ++ [p]) _ ((Step.new hq).trans (.newCell hp)) (rl2.newCell hp (reps_rep (rp1.step (.new hq)) n)) (Step.newRef rl2)

theorem s_lrepD {e n : E} {x y : Expr} {p1 : Pos} (ih : PE X x (rdE X.K XC W pg k e)) (hp : plainHd x = true) (ihn : PE X y (rdE X.K XC W pg k n)) : PE X (.BinOp (.List [x] p1) .Mult y pos) (rdE X.K XC W pg k (.lrepD e n)) := by
  refine PE.imp (pe_op op_rep (pe_lst (pa_cons ih pa_nil (plain_star hp _ _))) ihn) fun σ H Q hq => ?_
  obtain ⟨B, μ, h0, ρ, rl, sl, p⟩ := hq
  simp only [evE] at p
  refine ⟨B, μ, h0, ρ, rl, sl, p.bnd fun v h1 y μ1 H1 e1 st1 rl1 rp1 p1 => ?_⟩
  refine ⟨s_len (by show 1 ≤ 1000; decide), fun q hq => ?_⟩
  have rl2 := rl1.new (o := .lst [y]) hq
  have st2 : Step μ1 H1 μ1 (upd H1 q (.lst [y])) := .new hq
  have hm : q ∉ μ1 := rl1.fresh hq
  have sz : (1000 : Nat) ≤ sizeLine := s_len (Nat.le_refl _)
  refine ⟨B, μ1, h1, ρ, rl2, (sl.step st1).step st2, (p1.step st2).bnd fun w h2 z μ2 H2 e2 st3 rl3 rp3 p3 => ?_⟩
  cases w with
  | int i =>
    by_cases hz : 0 ≤ i ∧ i ≤ 1000
    · simp only [hz, and_self, if_true] at p3
      obtain rfl := Rep.int_iff.mp rp3
      refine ⟨q, i, [y], rfl, rfl, st3.keep _ _ upd_same hm, by omega, by omega, by simp only [List.length_singleton]; omega, fun p hp => ?_⟩
      rw [rep_flat]
      exact p3 (.ref p) (μ2 ++ [p]) _ (.newCell hp) (rl3.newCell hp (reps_rep ((rp1.step st2).step st3) _)) (Step.newRef rl3)
    · simp only [hz, if_false] at p3
      exact p3.elim
  | _ => exact p3.elim

theorem fst_any {x : Expr} {xs : List Expr} (h : (x :: xs).all plainHd = true) : plainHd x = true ∧ xs.all plainHd = true := by
  rw [List.all_cons, Bool.and_eq_true] at h; exact h
theorem s_blt {f : Bf} {es : Es} {x : Str} {xs : List Expr} {p : Pos} (G : Good pg k N XC sc X) (hg : glB sc x = true) (hx : x = bfName f) (ih : PA X xs (rdEs X.K XC W pg k es)) (hp : xs.all plainHd = true) (hl : 0 < xs.length) :
    PE X (.Call (.Name x p) xs [] pos) (rdE X.K XC W pg k (.blt f es)) := by
  obtain ⟨g1, g2, g3⟩ := G.glob hg
  cases xs with
  | nil => cases hl
  | cons y ys =>
    obtain ⟨h1, h2⟩ := fst_any hp
    have hm : X.mg x = none := G.bmg (by rw [hx]; cases f <;> decide +kernel)
    have hv : bootBuiltins x = some (bfVal f) := by rw [hx]; exact bf_boot f
    have rule := cl_rule G.calm G.room.units f
    have main : ∀ σ H Q, rdE X.K XC W pg k (.blt f es) σ H Q → tCB (rCl X.K (bltop f)) (rdEs X.K XC W pg k es) σ H Q := fun σ H Q hq => by
      obtain ⟨B, μ, h0, ρ, rl, sl, p⟩ := hq
      simp only [evE] at p
      refine ⟨B, μ, h0, ρ, rl, sl, p.bnd fun vs h1 ys μ1 H1 e1 st1 rl1 rp1 p1 => ?_⟩
      obtain ⟨w, ew, q⟩ := p1.fin fun c h' => bltop_ex
      exact ⟨B, μ1, h1, vs, w, rl1, rp1, ew, q⟩
    have he := plain_star h1 ys X.env
    have hpl : (backTo pos (starEach ys X.env)).any (·.1) = false := plain_any h2
    cases f <;> first
      | exact PE.imp (pe_callB rule g1 hm hv ih g3 g2 he hpl) main
      | exact PE.imp (pe_callTy rule g1 hm hv ih g3 g2 he hpl) main
theorem boot_ty (t : Ty) : bootBuiltins (tyS t) = some (.type (tyV' t)) := by
  cases t
  · exact PyProof.Rows.boot_int
  · exact PyProof.Rows.boot_bool
  · exact PyProof.Rows.boot_str
  · exact PyProof.Rows.boot_tuple
  · exact PyProof.Rows.boot_list
theorem s_isi {e : E} {t : Ty} {x ty : Str} {y : Expr} {p p2 : Pos} (G : Good pg k N XC sc X) (hg : glB sc x = true) (hx : x = ("isinstance" : Str)) (hg2 : glB sc ty = true) (ht : ty = tyS t) (ih : PE X y (rdE X.K XC W pg k e)) (hp : plainHd y = true) :
    PE X (.Call (.Name x p) [y, .Name ty p2] [] pos) (rdE X.K XC W pg k (.isi e t)) := by
  obtain ⟨g1, g2, g3⟩ := G.glob hg
  obtain ⟨k1, k2, k3⟩ := G.glob hg2
  have hm : X.mg x = none := G.bmg (by rw [hx]; decide +kernel)
  have hm2 : X.mg ty = none := G.bmg (by rw [ht]; cases t <;> decide +kernel)
  have hv : bootBuiltins x = some (.builtin "isinstance") := by rw [hx]; exact boot_isinstance
  have hv2 : bootBuiltins ty = some (.type (tyV' t)) := by rw [ht]; exact boot_ty t
  have pb : PE X (.Name ty p2) (tC (.ty (tyV' t))) := pe_bltn k1 hm2 hv2 rfl k3 k2
  have pa2 : PA X [y, .Name ty p2] (tCons (rdE X.K XC W pg k e) (tCons (tC (.ty (tyV' t))) tNil)) := pa_cons ih (pa_cons pb pa_nil) (plain_star hp _ _)
  refine PE.imp (pe_callB call_isi g1 hm hv pa2 g3 g2 (plain_star hp _ _) rfl) fun σ H Q hq => ?_
  obtain ⟨B, μ, h0, ρ, rl, sl, p⟩ := hq
  simp only [evE] at p
  refine ⟨B, μ, h0, ρ, rl, sl, p.bnd fun v h1 x1 μ1 H1 e1 st1 rl1 rp1 p1 => ?_⟩
  simp only at p1
  split at p1
  · rename_i b eb
    obtain ⟨w, hw, hk⟩ := ty_ok rl1 rp1 eb
    exact ⟨x1, .ty (tyV' t), w, .type (tyV' t), b, rfl, .ty _, hw, hk t b eb, p1 (.bl b) μ1 H1 .refl rl1 .bl⟩
  · exact p1.elim
def tTys : List Ty → TA
  | [] => tNil
  | t :: ts => tCons (tC (.ty (tyV' t))) (tTys ts)
theorem tTys_run : ∀ {ts : List Ty} {σ : L2.St} {H : Hp} {Q : List V → Hp → Prop}, Q (tyVs ts) H → tTys ts σ H Q
  | [], _, _, _, q => q
  | t :: ts, σ, H, Q, q => by
    show tTys ts σ H fun xs H2 => Q (V.ty (tyV' t) :: xs) H2
    exact tTys_run (ts := ts) (Q := fun xs H2 => Q (V.ty (tyV' t) :: xs) H2) q
theorem tyVs_len : ∀ ts : List Ty, (tyVs ts).length = ts.length
  | [] => rfl
  | t :: ts => by simp only [tyVs, List.length_cons, tyVs_len ts]
theorem s_tys (G : Good pg k N XC sc X) : ∀ {ts : List Ty} {ys : List Expr}, tysB sc ts ys = true → PA X ys (tTys ts)
  | [], [], _ => pa_nil
  | t :: ts, .Name y p :: ys, h => by
    simp only [tysB, Bool.and_eq_true, decide_eq_true_eq] at h
    obtain ⟨⟨ht, hg2⟩, h⟩ := h
    obtain ⟨k1, k2, k3⟩ := G.glob hg2
    have hm2 : X.mg y = none := G.bmg (by rw [ht]; cases t <;> decide +kernel)
    have hv2 : bootBuiltins y = some (.type (tyV' t)) := by rw [ht]; exact boot_ty t
    exact pa_cons (pe_bltn k1 hm2 hv2 rfl k3 k2) (s_tys G h) rfl
theorem s_isiT {e : E} {ts : List Ty} {x : Str} {y : Expr} {tys : List Expr} {n : Nat} {p p2 : Pos} (G : Good pg k N XC sc X) (hg : glB sc x = true) (hx : x = ("isinstance" : Str)) (ht : tysB sc ts tys = true) (hl : 0 < ts.length ∧ ts.length ≤ 5) (ih : PE X y (rdE X.K XC W pg k e)) (hp : plainHd y = true) :
    PE X (.Call (.Name x p) [y, .Tuple tys n p2] [] pos) (rdE X.K XC W pg k (.isiT e ts)) := by
  obtain ⟨g1, g2, g3⟩ := G.glob hg
  have hm : X.mg x = none := G.bmg (by rw [hx]; decide +kernel)
  have hv : bootBuiltins x = some (.builtin "isinstance") := by rw [hx]; exact boot_isinstance
  have pb : PE X (.Tuple tys n p2) (tTup (tTys ts)) := pe_tup (s_tys G ht)
  have pa2 : PA X [y, .Tuple tys n p2] (tCons (rdE X.K XC W pg k e) (tCons (tTup (tTys ts)) tNil)) := pa_cons ih (pa_cons pb pa_nil) (plain_star hp _ _)
  refine PE.imp (pe_callB call_isiT g1 hm hv pa2 g3 g2 (plain_star hp _ _) rfl) fun σ H Q hq => ?_
  obtain ⟨B, μ, h0, ρ, rl, sl, p⟩ := hq
  simp only [evE] at p
  refine ⟨B, μ, h0, ρ, rl, sl, p.bnd fun v h1 x1 μ1 H1 e1 st1 rl1 rp1 p1 => ?_⟩
  simp only at p1
  split at p1
  · rename_i b eb
    refine tTys_run (ts := ts) ⟨by rw [tyVs_len]; exact s_len (by omega), fun q hq => ?_⟩
    have rp2 : Rep X.K B μ1 (upd H1 q (.tup (tyVs ts))) v x1 := rp1.step (.new hq)
    have rl2 : Rel X.K B μ1 h1 (upd H1 q (.tup (tyVs ts))) := rl1.new hq
    cases ts with
    | nil => exact absurd hl.1 (by simp)
    | cons t ts =>
      have e0 : ∃ b0, tyOk v h1 t = some b0 := by
        simp only [tyAny] at eb
        split at eb
        · rename_i a c h1' h2'; exact ⟨a, h1'⟩
        · cases eb
      obtain ⟨b0, e0⟩ := e0
      obtain ⟨w, hw, hk⟩ := ty_ok rl2 rp2 e0
      exact ⟨x1, q, _, w, _, b, rfl, upd_same, ty_pair _, hw, kit_anys hk _ b eb, p1 (.bl b) μ1 _ (.new hq) rl2 .bl⟩
  · exact p1.elim

theorem ty_list {h : MH} {B μ : List Addr} {H : Hp} (rl : Rel X.K B μ h H) {n : Nat} {a : Addr} {l : List PV} (e : h[n]? = some (.lst l)) (r : Rep X.K B μ H (.ref n) (.ref a)) : tyV X.K "list" (.ref a) H := by
  obtain ⟨b, vs, hb, h1, _⟩ := rl.lst e
  obtain ⟨c, ec, hc⟩ := Rep.ref_iff.mp r
  cases ec
  rw [hb] at hc; cases hc
  exact Or.inl ⟨rfl, _, Or.inl (Or.inl h1)⟩
theorem mthTy_list {h : MH} {B μ : List Addr} {H : Hp} (rl : Rel X.K B μ h H) {v : PV} {x : V} (r : Rep X.K B μ H v x) (e : isLs v h = true) : tyV X.K "list" x H := by
  cases v with
  | ref n =>
    simp only [isLs] at e
    split at e
    · rename_i l hl
      obtain ⟨a, rfl, _⟩ := Rep.ref_iff.mp r
      exact ty_list rl hl r
    · cases e
  | _ => simp only [isLs] at e; cases e
theorem mthTy_dict {h : MH} {B μ : List Addr} {H : Hp} (rl : Rel X.K B μ h H) {v : PV} {x : V} (r : Rep X.K B μ H v x) (e : isDc v h = true) : tyV X.K "dict" x H := by
  cases v with
  | ref n =>
    simp only [isDc] at e
    split at e
    · rename_i l hl
      obtain ⟨a, rfl, ha⟩ := Rep.ref_iff.mp r
      obtain ⟨b, vs, hb, h1, _⟩ := rl.dct hl
      rw [ha] at hb; cases hb
      exact .inr (.inr (.inl ⟨rfl, .inl ⟨_, h1⟩⟩))
    · cases e
  | _ => simp only [isDc] at e; cases e
theorem s_dnew : PE X (.Dict [] [] pos) (rdE X.K XC W pg k .dnew) := by
  refine PE.imp pe_dnewK fun σ H Q hq => ?_
  obtain ⟨B, μ, h0, ρ, rl, sl, p⟩ := hq
  simp only [evE] at p
  exact fun q hq => p _ (μ ++ [q]) _ (.newCell hq) (rl.newDct hq) (Step.newRef rl)
theorem s_dnewT : PE X (.Dict [] [] pos) (rdE X.K XC W pg k .dnewT) := by
  refine PE.imp pe_dnewT fun σ H Q hq => ?_
  obtain ⟨B, μ, h0, ρ, rl, sl, p⟩ := hq
  simp only [evE] at p
  exact fun q hq => p _ (μ ++ [q]) _ (.newCell hq) (rl.newDcT hq) (Step.newRef rl)
theorem s_getT {o d : E} {ks : Es} {ox y : Expr} {xs : List Expr} {tn : Nat} {tp apos : Pos} (hu : X.A.units + 1 < cLine) (iho : PE X ox (rdE X.K XC W pg k o)) (ihk : PA X xs (rdEs X.K XC W pg k ks)) (ihd : PE X y (rdE X.K XC W pg k d)) (hl : esLen ks ≤ 1000) (hy : plainHd y = true) (ha : attrHd ox = true) (hline : (apos.endLine == pos.line) = true) :
    PE X (.Call (.Attribute ox "get" apos) [.Tuple xs tn tp, y] [] pos) (rdE X.K XC W pg k (.getT o ks d)) := by
  have hp : ([.Tuple xs tn tp, y] : List Expr).all plainHd = true := by simp only [List.all_cons, List.all_nil, hy, Bool.and_true]; rfl
  obtain ⟨h1, h2⟩ := fst_any hp
  obtain ⟨h3, h4⟩ := fst_any h2
  have hfew : ((backTo pos (starEach [.Tuple xs tn tp, y] X.env)).all (fun x => !x.1) && (backToKw pos (keywordEach [] X.env)).all (fun x => x.1.isSome)
    && decide ([.Tuple xs tn tp, y].length + ([] : List Keyword).length + (if ([] : List Keyword).isEmpty then 0 else 1) < 30)) = true := by rw [plain_star h1, plain_star h3]; rfl
  refine PE.imp (pe_dget2 hu iho (pe_tup ihk) ihd ⟨attr_base ha _ _ _, hfew, hline, by rw [plain_star h1, plain_star h3]; rfl⟩) fun σ H Q hq => ?_
  obtain ⟨B, μ, h0, ρ, rl, sl, p⟩ := hq
  simp only [evE] at p
  refine ⟨B, μ, h0, ρ, rl, sl, p.bnd fun v h1 x1 μ1 H1 e1 st1 rl1 rp1 p1 => ?_⟩
  split at p1
  · rename_i hv
    obtain ⟨l0, el0⟩ := Option.isSome_iff_exists.mp hv
    obtain ⟨n, a, kvs0, rfl, rfl, ha1, _, hH1, _, _⟩ := tview_ok rl1 rp1 el0
    refine ⟨a, rfl, .inr ⟨_, .inl hH1⟩, B, μ1, h1, ρ, rl1, sl.step st1, p1.bnd fun vs h2 ys μ2 H2 e2 st2 rl2 rp2 p2 => ?_⟩
    refine ⟨by rw [← rp2.length, evEs_len e2]; exact s_len hl, fun q hq => ?_⟩
    have stN : Step μ2 H2 μ2 (upd H2 q (.tup ys)) := .new hq
    have rlN := rl2.new (o := .tup ys) hq
    refine ⟨B, μ2, h2, ρ, rlN, ((sl.step st1).step st2).step stN, (PostG.step p2 stN).bnd fun z h3 z3 μ3 H3 e3 st3 rl3 rp3 p3 => ?_⟩
    simp only at p3
    split at p3
    · rename_i l kk el ek
      have rv := ((rp1.step st2).step stN).step st3
      obtain ⟨n', a', kvs, en, ea, ha3, _, hH3, h5, h6⟩ := tview_ok rl3 rv el
      cases ea
      have hqm : q ∉ μ2 := rl2.fresh hq
      have hk3 : H3 q = some (.tup (kk.map L2.kV)) := by
        have := st3.keep q _ upd_same hqm
        rw [this, keysP_V rp2 ek]
      refine ⟨L2.valV kvs kk, .inr ⟨kvs, kk, q, .inl hH3, rfl, hk3, rfl⟩, ?_⟩
      rcases dct_val kk h5 h6 with ⟨z1, z2⟩ | ⟨pv, v', z1, z2, z3⟩
      · rw [z2]; rw [z1] at p3; exact p3 _ μ3 H3 .refl rl3 rp3
      · rw [z2]; rw [z1] at p3; exact p3 _ μ3 H3 .refl rl3 z3
    · exact p3.elim
  · exact p1.elim
theorem s_mth {m : Mf} {o : E} {es : Es} {ox : Expr} {xs : List Expr} {apos : Pos} (hu : X.A.units + 1 < cLine) (ih : PE X ox (rdE X.K XC W pg k o)) (ihs : PA X xs (rdEs X.K XC W pg k es)) (hp : xs.all plainHd = true) (hn : xs.length = mthAr m) (hes : xs = [] → es = .nil) (ha : recvHd ox = true) (hline : (apos.endLine == pos.line) = true) :
    PE X (.Call (.Attribute ox (mfName m) apos) xs [] pos) (rdE X.K XC W pg k (.mth m o es)) := by
  cases m with
  | append =>
    match xs, hn with
    | [y], _ =>
      obtain ⟨h1, h2⟩ := fst_any hp
      have hfew : ((backTo pos (starEach [y] X.env)).all (fun x => !x.1) && (backToKw pos (keywordEach [] X.env)).all (fun x => x.1.isSome)
        && decide ([y].length + ([] : List Keyword).length + (if ([] : List Keyword).isEmpty then 0 else 1) < 30)) = true := by rw [plain_star h1]; rfl
      refine PE.imp (pe_bm PySem.F.plainAttrs_list PySem.F.slot_list_append PySem.F.type_list_append mt_ap ih ihs (recv_base ha _ _ _) hfew hline (plain_star h1 _ _) (plain_any h2)) fun σ H Q hq => ?_
      obtain ⟨B, μ, h0, ρ, rl, sl, p⟩ := hq
      simp only [evE] at p
      refine ⟨B, μ, h0, ρ, rl, sl, p.bnd fun v h1 x1 μ1 H1 e1 st1 rl1 rp1 p1 => ?_⟩
      split at p1
      · rename_i ht
        refine ⟨mthTy_list rl1 rp1 ht, B, μ1, h1, ρ, rl1, sl.step st1, p1.bnd fun vs h2 ys μ2 H2 e2 st2 rl2 rp2 p2 => ?_⟩
        cases em : mthop .append v vs h2 with
        | ok r =>
          obtain ⟨w, h3⟩ := r
          simp only [em] at p2
          exact ⟨B, μ2, h2, v, vs, w, h3, rl2, rp1.step st2, rp2, em, p2⟩
        | error er =>
          simp only [em] at p2
          cases er with
          | stuck => exact p2.elim
          | exc c h' => exact absurd em mthop_ex
      · exact p1.elim
  | pop =>
    match xs, hn with
    | [], _ =>
      have e0 : es = .nil := hes rfl
      subst e0
      refine PE.imp (pe_bm0 PySem.F.plainAttrs_list PySem.F.slot_list_pop PySem.F.type_list_pop mt_po ih (recv_base ha _ _ _) hline) fun σ H Q hq => ?_
      obtain ⟨B, μ, h0, ρ, rl, sl, p⟩ := hq
      simp only [evE, evEs] at p
      refine ⟨B, μ, h0, ρ, rl, sl, p.bnd fun v h1 x1 μ1 H1 e1 st1 rl1 rp1 p1 => ?_⟩
      split at p1
      · rename_i ht
        refine ⟨mthTy_list rl1 rp1 ht, ?_⟩
        rw [bnd_ok] at p1
        cases em : mthop .pop v [] h1 with
        | ok r =>
          obtain ⟨w, h3⟩ := r
          simp only [em] at p1
          exact ⟨B, μ1, h1, v, [], w, h3, rl1, rp1, .nil, em, p1⟩
        | error er =>
          simp only [em] at p1
          cases er with
          | stuck => exact p1.elim
          | exc c h' => exact absurd em mthop_ex
      · exact p1.elim
  | clear =>
    match xs, hn with
    | [], _ =>
      have e0 : es = .nil := hes rfl
      subst e0
      refine PE.imp (pe_bm0 PySem.F.plainAttrs_list PySem.F.slot_list_clear PySem.F.type_list_clear mt_cl ih (recv_base ha _ _ _) hline) fun σ H Q hq => ?_
      obtain ⟨B, μ, h0, ρ, rl, sl, p⟩ := hq
      simp only [evE, evEs] at p
      refine ⟨B, μ, h0, ρ, rl, sl, p.bnd fun v h1 x1 μ1 H1 e1 st1 rl1 rp1 p1 => ?_⟩
      split at p1
      · rename_i ht
        refine ⟨mthTy_list rl1 rp1 ht, ?_⟩
        rw [bnd_ok] at p1
        cases em : mthop .clear v [] h1 with
        | ok r =>
          obtain ⟨w, h3⟩ := r
          simp only [em] at p1
          exact ⟨B, μ1, h1, v, [], w, h3, rl1, rp1, .nil, em, p1⟩
        | error er =>
          simp only [em] at p1
          cases er with
          | stuck => exact p1.elim
          | exc c h' => exact absurd em mthop_ex
      · exact p1.elim
  | get1 =>
    match xs, hn with
    | [y], _ =>
      obtain ⟨h1, h2⟩ := fst_any hp
      have hfew : ((backTo pos (starEach [y] X.env)).all (fun x => !x.1) && (backToKw pos (keywordEach [] X.env)).all (fun x => x.1.isSome)
        && decide ([y].length + ([] : List Keyword).length + (if ([] : List Keyword).isEmpty then 0 else 1) < 30)) = true := by rw [plain_star h1]; rfl
      refine PE.imp (pe_bm PySem.F.plainAttrs_dict PySem.F.slot_dict_get PySem.F.type_dict_get (mt_g1 hu) ih ihs (recv_base ha _ _ _) hfew hline (plain_star h1 _ _) (plain_any h2)) fun σ H Q hq => ?_
      obtain ⟨B, μ, h0, ρ, rl, sl, p⟩ := hq
      simp only [evE] at p
      refine ⟨B, μ, h0, ρ, rl, sl, p.bnd fun v h1 x1 μ1 H1 e1 st1 rl1 rp1 p1 => ?_⟩
      split at p1
      · rename_i ht
        refine ⟨mthTy_dict rl1 rp1 ht, B, μ1, h1, ρ, rl1, sl.step st1, p1.bnd fun vs h2 ys μ2 H2 e2 st2 rl2 rp2 p2 => ?_⟩
        cases em : mthop .get1 v vs h2 with
        | ok r =>
          obtain ⟨w, h3⟩ := r
          simp only [em] at p2
          exact ⟨B, μ2, h2, v, vs, w, h3, rl2, rp1.step st2, rp2, em, p2⟩
        | error er =>
          simp only [em] at p2
          cases er with
          | stuck => exact p2.elim
          | exc c h' => exact absurd em mthop_ex
      · exact p1.elim
  | get2 =>
    match xs, hn with
    | [y, z], _ =>
      obtain ⟨h1, h2⟩ := fst_any hp
      obtain ⟨h3, h4⟩ := fst_any h2
      have hfew : ((backTo pos (starEach [y, z] X.env)).all (fun x => !x.1) && (backToKw pos (keywordEach [] X.env)).all (fun x => x.1.isSome)
        && decide ([y, z].length + ([] : List Keyword).length + (if ([] : List Keyword).isEmpty then 0 else 1) < 30)) = true := by rw [plain_star h1, plain_star h3]; rfl
      refine PE.imp (pe_bm PySem.F.plainAttrs_dict PySem.F.slot_dict_get PySem.F.type_dict_get (mt_g2 hu) ih ihs (recv_base ha _ _ _) hfew hline (plain_star h1 _ _) (plain_any h2)) fun σ H Q hq => ?_
      obtain ⟨B, μ, h0, ρ, rl, sl, p⟩ := hq
      simp only [evE] at p
      refine ⟨B, μ, h0, ρ, rl, sl, p.bnd fun v h1 x1 μ1 H1 e1 st1 rl1 rp1 p1 => ?_⟩
      split at p1
      · rename_i ht
        refine ⟨mthTy_dict rl1 rp1 ht, B, μ1, h1, ρ, rl1, sl.step st1, p1.bnd fun vs h2 ys μ2 H2 e2 st2 rl2 rp2 p2 => ?_⟩
        cases em : mthop .get2 v vs h2 with
        | ok r =>
          obtain ⟨w, h3⟩ := r
          simp only [em] at p2
          exact ⟨B, μ2, h2, v, vs, w, h3, rl2, rp1.step st2, rp2, em, p2⟩
        | error er =>
          simp only [em] at p2
          cases er with
          | stuck => exact p2.elim
          | exc c h' => exact absurd em mthop_ex
      · exact p1.elim
  | popd =>
    match xs, hn with
    | [y, z], _ =>
      obtain ⟨h1, h2⟩ := fst_any hp
      obtain ⟨h3, h4⟩ := fst_any h2
      have hfew : ((backTo pos (starEach [y, z] X.env)).all (fun x => !x.1) && (backToKw pos (keywordEach [] X.env)).all (fun x => x.1.isSome)
        && decide ([y, z].length + ([] : List Keyword).length + (if ([] : List Keyword).isEmpty then 0 else 1) < 30)) = true := by rw [plain_star h1, plain_star h3]; rfl
      refine PE.imp (pe_bm PySem.F.plainAttrs_dict PySem.F.slot_dict_pop PySem.F.type_dict_pop mt_pd ih ihs (recv_base ha _ _ _) hfew hline (plain_star h1 _ _) (plain_any h2)) fun σ H Q hq => ?_
      obtain ⟨B, μ, h0, ρ, rl, sl, p⟩ := hq
      simp only [evE] at p
      refine ⟨B, μ, h0, ρ, rl, sl, p.bnd fun v h1 x1 μ1 H1 e1 st1 rl1 rp1 p1 => ?_⟩
      split at p1
      · rename_i ht
        refine ⟨mthTy_dict rl1 rp1 ht, B, μ1, h1, ρ, rl1, sl.step st1, p1.bnd fun vs h2 ys μ2 H2 e2 st2 rl2 rp2 p2 => ?_⟩
        cases em : mthop .popd v vs h2 with
        | ok r =>
          obtain ⟨w, h3⟩ := r
          simp only [em] at p2
          exact ⟨B, μ2, h2, v, vs, w, h3, rl2, rp1.step st2, rp2, em, p2⟩
        | error er =>
          simp only [em] at p2
          cases er with
          | stuck => exact p2.elim
          | exc c h' => exact absurd em mthop_ex
      · exact p1.elim
  | extend =>
    match xs, hn with
    | [y], _ =>
      obtain ⟨h1, h2⟩ := fst_any hp
      have hfew : ((backTo pos (starEach [y] X.env)).all (fun x => !x.1) && (backToKw pos (keywordEach [] X.env)).all (fun x => x.1.isSome)
        && decide ([y].length + ([] : List Keyword).length + (if ([] : List Keyword).isEmpty then 0 else 1) < 30)) = true := by rw [plain_star h1]; rfl
      refine PE.imp (pe_bm PySem.F.plainAttrs_list PySem.F.slot_list_extend PySem.F.type_list_extend mt_ex ih ihs (recv_base ha _ _ _) hfew hline (plain_star h1 _ _) (plain_any h2)) fun σ H Q hq => ?_
      obtain ⟨B, μ, h0, ρ, rl, sl, p⟩ := hq
      simp only [evE] at p
      refine ⟨B, μ, h0, ρ, rl, sl, p.bnd fun v h1 x1 μ1 H1 e1 st1 rl1 rp1 p1 => ?_⟩
      split at p1
      · rename_i ht
        refine ⟨mthTy_list rl1 rp1 ht, B, μ1, h1, ρ, rl1, sl.step st1, p1.bnd fun vs h2 ys μ2 H2 e2 st2 rl2 rp2 p2 => ?_⟩
        cases em : mthop .extend v vs h2 with
        | ok r =>
          obtain ⟨w, h3⟩ := r
          simp only [em] at p2
          exact ⟨B, μ2, h2, v, vs, w, h3, rl2, rp1.step st2, rp2, em, p2⟩
        | error er =>
          simp only [em] at p2
          cases er with
          | stuck => exact p2.elim
          | exc c h' => exact absurd em mthop_ex
      · exact p1.elim

theorem pe_callS0 {CX : CXT} {k' : Nat} {f : Addr} {fd : FuncData} {ps : List Str} {sp : Sp} {E : L2.St → XK} {x : Str} {p : Pos} (F : FnOk X.prog X.w X.K X.mg X.base CX k' f fd ps sp) (hr : Room k' X.A) (hg : Gl X x) (hm : X.mg x = some (.ref f)) (hk : PySem.W.keepIn X.K (.ref f) = true)
    (hb : Binds X.K fd ps []) (hx : ∀ σ, PassesAt CX X σ (E σ)) (hdb : (x == ("__debug__" : Str)) = false) : PE X (.Call (.Name x p) [] [] pos) (tCallS sp E tNil) := by
  refine ⟨fun pins s σ H Q I h => ?_⟩
  refine wpAny_Call_Name_kw (ld_glob I hg hm ?_ hdb)
  exact PySem.W.callWith_K0 I.kIn hk (run_fnS (us := []) F hr hb (hx σ) I .nil h)
theorem fnB_ok {f : String} {x : Str} (h : fnB pg f x = true) : ∃ d, pg.fn f = some d ∧ d.py = x ∧ pg.cl f = none := by
  unfold fnB at h
  split at h
  · rename_i d e
    rw [Bool.and_eq_true] at h
    exact ⟨d, e, of_decide_eq_true h.1, of_decide_eq_true h.2⟩
  · cases h
theorem mtB_ok {f : String} {c nm : Str} (h : mtB pg f c nm = true) : ∃ d, pg.fn f = some d ∧ d.py = nm ∧ pg.cl f = some c := by
  unfold mtB at h
  split at h
  · rename_i d e
    rw [Bool.and_eq_true] at h
    exact ⟨d, e, of_decide_eq_true h.1, of_decide_eq_true h.2⟩
  · cases h
theorem mkB_ok {f : String} {x : Str} (h : mkB pg f x = true) : ∃ g, pg.mak f = some (x, g) ∧ pg.fn f = none := by
  unfold mkB at h
  split at h
  · rename_i c g e
    rw [Bool.and_eq_true] at h
    have := of_decide_eq_true h.1
    subst this
    have h2 := of_decide_eq_true h.2
    refine ⟨g, e, ?_⟩
    cases q : pg.fn f with
    | none => rfl
    | some d => rw [q] at h2; cases h2
  · cases h
/-- a call of a function whose promise follows from the reading -/
theorem s_call {f : String} {es : Es} {e : E} {x : Str} {xs : List Expr} {p : Pos} (G : Good pg k N XC sc X) (tk : Takes X W) (hg : glB sc x = true) (hf : fnB pg f x = true) (ih : PA X xs (rdEs X.K XC W pg k es)) (hp : xs.all plainHd = true) (hes : xs = [] → es = .nil)
    (he : ∀ σ B μ h ρ H Q, Rel X.K B μ h H → Slots X.K B μ H ρ σ → PostG X.K B XC W σ (Rep X.K B) Q (evE (run pg k) pg.gl e ρ h) μ H →
      PostG X.K B XC W σ (Reps X.K B) (fun vs H1 => spF X.K XC pg k f vs H1 Q (WE W σ)) (evEs (run pg k) pg.gl es ρ h) μ H) : PE X (.Call (.Name x p) xs [] pos) (rdE X.K XC W pg k e) := by
  obtain ⟨g1, g2, _⟩ := G.glob hg
  obtain ⟨d, ed, ex, ecl⟩ := fnB_ok hf
  obtain ⟨a, fdt, ps, hm, hk, hb, F⟩ := G.fns f d ed ecl
  rw [ex] at hm
  have hx : ∀ σ, PassesAt (L2.CX X.prog X.w) X σ (WE W σ) := fun σ => passAt tk σ
  have main : ∀ σ H Q, rdE X.K XC W pg k e σ H Q → tCallS (spF X.K XC pg k f) (WE W) (rdEs X.K XC W pg k es) σ H Q := fun σ H Q hq => by
    obtain ⟨B, μ, h0, ρ, rl, sl, p⟩ := hq
    exact ⟨B, μ, h0, ρ, rl, sl, he σ B μ h0 ρ H Q rl sl p⟩
  cases xs with
  | nil =>
    have e0 : es = .nil := hes rfl
    subst e0
    refine PE.imp (pe_callS0 F G.room g1 hm hk hb hx g2) fun σ H Q hq => ?_
    obtain ⟨B, μ, h0, ρ, rl, sl, p⟩ := main σ H Q hq
    simp only [evEs] at p
    exact p [] μ H .refl rl .nil
  | cons y ys =>
    obtain ⟨h1, h2⟩ := fst_any hp
    exact PE.imp (pe_callS F G.room g1 hm hk hb hx ih g2 (plain_star h1 ys _) (plain_any h2)) main
theorem s_callH {f : String} {es : Es} {x : Str} {xs : List Expr} {p : Pos} (G : Good pg k N XC sc X) (tk : Takes X W) (hg : glB sc x = true) (hf : fnB pg f x = true) (ih : PA X xs (rdEs X.K XC W pg k es)) (hp : xs.all plainHd = true) (hes : xs = [] → es = .nil) :
    PE X (.Call (.Name x p) xs [] pos) (rdE X.K XC W pg k (.callH f es)) := by
  refine s_call G tk hg hf ih hp hes fun σ B μ h ρ H Q rl sl p => ?_
  simp only [evE] at p
  refine p.bnd fun vs h1 ys μ1 H1 e1 st1 rl1 rp1 p1 => ?_
  exact ⟨B, μ1, h1, vs, rl1, rp1, p1.at⟩
/-- a plain call's values -/
theorem notup {K : PySem.W.Frag} [Wd K] {B μ : List Addr} {h : MH} {H : Hp} (rl : Rel K B μ h H) {a : Addr} {xs : List V} (r : Rd H a (.tup xs)) : a ∉ μ := fun hm => by
  obtain ⟨n, hn, e⟩ := List.mem_iff_getElem.mp hm
  have hl : n < h.length := by rw [← rl.len]; exact hn
  obtain ⟨b, hb, hc⟩ := rl.cell n h[n] (List.getElem?_eq_getElem hl)
  rw [List.getElem?_eq_getElem hn, e] at hb
  cases hb
  cases q : h[n] with
  | lst l =>
    rw [q] at hc
    obtain ⟨vs, z, _⟩ := hc
    rcases r with r | ⟨o, r⟩
    · rw [r] at z; cases z
    · rw [r] at z; cases z
  | dct l =>
    rw [q] at hc
    obtain ⟨vs, z, _⟩ := hc
    rcases r with r | ⟨o, r⟩
    · rw [r] at z; cases z
    · rw [r] at z; cases z
  | fz l =>
    rw [q] at hc
    obtain ⟨o2, vs, z, _⟩ := hc
    rcases r with r | ⟨o, r⟩
    · rw [r] at z; cases z
    · rw [r] at z; cases z
  | fzN l =>
    rw [q] at hc
    obtain ⟨o2, xs2, vs2, z, _⟩ := hc
    rcases r with r | ⟨o, r⟩
    · rw [r] at z; cases z
    · rw [r] at z; cases z
  | dcT l =>
    rw [q] at hc
    obtain ⟨vs, z, _⟩ := hc
    rcases r with r | ⟨o, r⟩
    · rw [r] at z; cases z
    · rw [r] at z; cases z
  | obj c fs =>
    rw [q] at hc
    obtain ⟨C, dx, fv, z, _⟩ := hc
    rcases r with r | ⟨o, r⟩
    · rw [r] at z; cases z
    · rw [r] at z; cases z
  | dcN l =>
    rw [q] at hc
    obtain ⟨xs', vs, z, _⟩ := hc
    rcases r with r | ⟨o, r⟩
    · rw [r] at z; cases z
    · rw [r] at z; cases z
theorem snap_rep {K : PySem.W.Frag} [Wd K] {B μ : List Addr} {h : MH} {H : Hp} (rl : Rel K B μ h H) {v : PV} {x : V} (r : Rep K B μ H v x) (n : noRef (snap h v) = true) : Rep K [] [] H (snap h v) x := by
  have hL : ∀ a xs, SxL K B μ H a xs → SxL K [] [] H a xs := fun a xs z => z.elim (fun z => .inl ⟨z.1, by simp, by simp⟩) .inr
  have hT : ∀ a xs, SxT K μ H a xs → SxT K [] H a xs := fun a xs z => z.elim (fun z => .inl ⟨z.1, by simp⟩) .inr
  cases v with
  | ref m =>
    cases hc : h[m]? with
    | none => simp only [snap, hc, noRef] at n; cases n
    | some c =>
      cases c with
      | dct _ => simp only [snap, hc, noRef] at n; cases n
      | fz _ => simp only [snap, hc, noRef] at n; cases n
      | fzN _ => simp only [snap, hc, noRef] at n; cases n
      | dcT _ => simp only [snap, hc, noRef] at n; cases n
      | obj _ _ => simp only [snap, hc, noRef] at n; cases n
      | dcN _ => simp only [snap, hc, noRef] at n; cases n
      | lst l =>
        obtain ⟨a, vs, ha, h1, h2⟩ := rl.lst hc
        obtain ⟨b, rfl, hb⟩ := Rep.ref_iff.mp r
        rw [ha] at hb; cases hb
        simp only [snap, hc, noRef] at n
        simp only [snap, hc]
        exact Rep.lst_iff.mpr ⟨a, vs, rfl, .inl ⟨.inl h1, by simp, by simp⟩, Reps.plain hL hT n h2⟩
  | _ => simp only [snap] at n ⊢; exact Rep.plain hL hT n r
theorem snap_reps {K : PySem.W.Frag} [Wd K] {B μ : List Addr} {h : MH} {H : Hp} (rl : Rel K B μ h H) : ∀ {vs : List PV} {xs : List V}, Reps K B μ H vs xs → noRefs (vs.map (snap h)) = true → Reps K [] [] H (vs.map (snap h)) xs
  | [], _, r, _ => by rw [r.nil_inv]; exact .nil
  | v :: vs, _, r, n => by
    obtain ⟨x, xs, rfl, r1, r2⟩ := r.cons_inv
    simp only [List.map_cons, noRefs, Bool.and_eq_true] at n
    exact .cons (snap_rep rl r1 n.1) (snap_reps rl r2 n.2)
theorem snap_id {h : MH} {v : PV} (n : noRef v = true) : snap h v = v := by
  cases v with
  | ref m => simp only [noRef] at n; cases n
  | _ => rfl
theorem snap_ids {h : MH} : ∀ {vs : List PV}, noRefs vs = true → vs.map (snap h) = vs
  | [], _ => rfl
  | v :: vs, n => by
    simp only [noRefs, Bool.and_eq_true] at n
    rw [List.map_cons, snap_id n.1, snap_ids n.2]
theorem callPl_sp {K : PySem.W.Frag} [Wd K] {B μ : List Addr} {h : MH} {H : Hp} {f : String} {σ : L2.St} {Q : VK} (rl : Rel K B μ h H) {vs : List PV} {xs : List V} (rp : Reps K B μ H vs xs)
    (p : PostG K B XC W σ (Rep K B) Q (callPl (run pg k) f vs h) μ H) : spF K XC pg k f xs H Q (WE W σ) := by
  unfold callPl at p
  split at p
  · rename_i hn
    -- the caller's state behind the call
    have back : ∀ {B' ν : List Addr} {h' : MH} {H' : Hp}, Step [] H ν H' → Step μ H μ H' ∧ Rel K B μ h H' := fun {B' ν h' H'} st => by
      have kp : ∀ a o, H a = some o → H' a = some o := fun a o e => st.keep a o e (by simp)
      have st' : Step μ H μ H' := ⟨⟨[], by simp, fun _ z => by simp at z⟩, fun a o e _ => kp a o e, fun a o e => ⟨o, kp a o e⟩, fun a o u e => kp a _ e⟩
      refine ⟨st', rl.len, rl.nd, rl.sep, fun a ha => ?_, fun n c e => ?_⟩
      · obtain ⟨o, e⟩ := rl.trB a ha; exact ⟨o, kp a o e⟩
      · obtain ⟨a, ha, hc⟩ := rl.cell n c e
        obtain ⟨o, eo⟩ := rl.tracked (List.mem_of_getElem? ha)
        exact ⟨a, ha, hc.step st' (by rw [eo, kp a o eo])⟩
    have ends : ∀ (B' : List Addr), (B' = B ++ μ ∧ noRefs vs = true) ∨ noRefs vs = false → Reps K B' [] H (vs.map (snap h)) xs → Rel K B' [] [] H → spF K XC pg k f xs H Q (WE W σ) := fun B' hB rp' rl' => by
      refine ⟨B', [], [], _, rl', rp', ?_⟩
      cases er : run pg k f (vs.map (snap h)) [] with
      | error e =>
        rw [er] at p
        cases e with
        | stuck => exact p.elim
        | exc c h' =>
          intro cls d ν H' st rl2 xc
          obtain ⟨st', rl3⟩ := back (B' := B') (h' := h') st
          exact p cls d μ H' st' rl3 xc
      | ok r =>
        obtain ⟨v, h'⟩ := r
        rw [er] at p
        simp only at p
        split at p
        · rename_i hc
          obtain ⟨n1, n2⟩ := hc
          intro x ν H' st rl2 rv
          obtain ⟨st', rl3⟩ := back (B' := B') (h' := h') st
          refine p x μ H' st' rl3 ?_
          have hT : ∀ a ys, SxT K ν H' a ys → SxT K μ H' a ys := fun a ys z => z.elim (fun z => .inl ⟨z.1, notup rl3 z.1⟩) .inr
          rcases hB with ⟨rfl, _⟩ | hB
          · have hL : ∀ a ys, SxL K (B ++ μ) ν H' a ys → SxL K B μ H' a ys := fun a ys z => z.elim (fun z => .inl ⟨z.1, fun q => z.2.1 (List.mem_append_left _ q), fun q => z.2.1 (List.mem_append_right _ q)⟩) .inr
            cases v with
            | ref m =>
              cases hc : h'[m]? with
              | none => simp only [frz, hc, noRef] at n1; cases n1
              | some c =>
                cases c with
                | dct _ => simp only [frz, hc, noRef] at n1; cases n1
                | fz _ => simp only [frz, hc, noRef] at n1; cases n1
                | fzN _ => simp only [frz, hc, noRef] at n1; cases n1
                | dcT _ => simp only [frz, hc, noRef] at n1; cases n1
                | obj _ _ => simp only [frz, hc, noRef] at n1; cases n1
                | dcN _ => simp only [frz, hc, noRef] at n1; cases n1
                | lst l =>
                  obtain ⟨a, ws, ha, h1, h2⟩ := rl2.lst hc
                  obtain ⟨b, rfl, hb⟩ := Rep.ref_iff.mp rv
                  rw [ha] at hb; cases hb
                  simp only [frz, hc, noRef] at n1
                  simp only [frz, hc]
                  have hnew : H a = none := by
                    obtain ⟨ν', e', hν⟩ := st.pre
                    rw [List.nil_append] at e'
                    subst e'
                    exact hν a (List.mem_of_getElem? ha)
                  exact Rep.lst_iff.mpr ⟨a, ws, rfl, .inl ⟨.inl h1, rl.freshB hnew, rl.fresh hnew⟩, Reps.plain hL hT n1 h2⟩
            | _ => simp only [frz] at n1 ⊢; exact Rep.plain hL hT n1 rv
          · have n4 : noLst (frz h' v) = true ∨ frsh h' v = true := by
              rcases n2 with z | z
              · rw [hB] at z; cases z
              · exact z
            rcases n4 with n3 | n3
            · cases v with
              | ref m =>
                cases hc : h'[m]? with
                | none => simp only [frz, hc, noLst] at n3; cases n3
                | some c =>
                  cases c with
                  | dct _ => simp only [frz, hc, noLst] at n3; cases n3
                  | fz _ => simp only [frz, hc, noLst] at n3; cases n3
                  | fzN _ => simp only [frz, hc, noLst] at n3; cases n3
                  | dcT _ => simp only [frz, hc, noLst] at n3; cases n3
                  | obj _ _ => simp only [frz, hc, noLst] at n3; cases n3
                  | dcN _ => simp only [frz, hc, noLst] at n3; cases n3
                  | lst l => simp only [frz, hc, noLst] at n3; cases n3
              | _ => simp only [frz] at n3 ⊢; exact Rep.noLst hT n3 rv
            · cases v with
              | ref m =>
                cases hc : h'[m]? with
                | none => simp only [frsh, hc] at n3; cases n3
                | some c =>
                  cases c with
                  | dct _ => simp only [frsh, hc] at n3; cases n3
                  | fz _ => simp only [frsh, hc] at n3; cases n3
                  | fzN _ => simp only [frsh, hc] at n3; cases n3
                  | dcT _ => simp only [frsh, hc] at n3; cases n3
                  | obj _ _ => simp only [frsh, hc] at n3; cases n3
                  | dcN _ => simp only [frsh, hc] at n3; cases n3
                  | lst l =>
                    obtain ⟨a, ws, ha, h1, h2⟩ := rl2.lst hc
                    obtain ⟨b, rfl, hb⟩ := Rep.ref_iff.mp rv
                    rw [ha] at hb; cases hb
                    simp only [frsh, hc] at n3
                    simp only [frz, hc]
                    have hnew : H a = none := by
                      obtain ⟨ν', e', hν⟩ := st.pre
                      rw [List.nil_append] at e'
                      subst e'
                      exact hν a (List.mem_of_getElem? ha)
                    exact Rep.lst_iff.mpr ⟨a, ws, rfl, .inl ⟨.inl h1, rl.freshB hnew, rl.fresh hnew⟩, Reps.noLst hT n3 h2⟩
              | _ => simp only [frsh] at n3; cases n3
        · exact p.elim
    cases hv : noRefs vs with
    | true =>
      have hL : ∀ a ys, SxL K B μ H a ys → SxL K (B ++ μ) [] H a ys := fun a ys z => z.elim (fun z => .inl ⟨z.1, fun q => (List.mem_append.mp q).elim z.2.1 z.2.2, by simp⟩) .inr
      have hT : ∀ a ys, SxT K μ H a ys → SxT K [] H a ys := fun a ys z => z.elim (fun z => .inl ⟨z.1, by simp⟩) .inr
      refine ends (B ++ μ) (.inl ⟨rfl, hv⟩) (by rw [snap_ids hv]; exact Reps.plain hL hT hv rp) ⟨rfl, List.nodup_nil, fun _ _ => by simp, fun a ha => ?_, fun n c e => by simp at e⟩
      rcases List.mem_append.mp ha with z | z
      · exact rl.trB a z
      · exact rl.tracked z
    | false => exact ends [] (.inr hv) (snap_reps rl rp hn) ⟨rfl, List.nodup_nil, fun _ z => by simp at z, fun _ z => by simp at z, fun n c e => by simp at e⟩
  · exact p.elim
theorem s_callP {f : String} {es : Es} {x : Str} {xs : List Expr} {p : Pos} (G : Good pg k N XC sc X) (tk : Takes X W) (hg : glB sc x = true) (hf : fnB pg f x = true) (ih : PA X xs (rdEs X.K XC W pg k es)) (hp : xs.all plainHd = true) (hes : xs = [] → es = .nil) :
    PE X (.Call (.Name x p) xs [] pos) (rdE X.K XC W pg k (.callP f es)) := by
  refine s_call G tk hg hf ih hp hes fun σ B μ h ρ H Q rl sl p => ?_
  simp only [evE] at p
  refine p.bnd fun vs h1 ys μ1 H1 e1 st1 rl1 rp1 p1 => ?_
  exact callPl_sp rl1 rp1 p1

theorem fldop_ex {c : Str} {o : PV} {f : Str} {h : MH} {c' : Str} {h' : MH} : fldop c o f h ≠ .error (.exc c' h') := by
  unfold fldop
  split
  · split
    · intro z; cases z
    · intro z; cases z
  · intro z; cases z
theorem s_fld {c f : Str} {e : E} {x : Expr} (G : Good pg k N XC sc X) (hf : flB pg c f = true) (ha : attrHd x = true) (ih : PE X x (rdE X.K XC W pg k e)) : PE X (.Attribute x f pos) (rdE X.K XC W pg k (.fld c e f)) := by
  refine PE.imp (pe_fld ih (attr_base ha f _ _)) fun σ H Q hq => ?_
  obtain ⟨B, μ, h0, ρ, rl, sl, p⟩ := hq
  simp only [evE] at p
  refine ⟨B, μ, h0, ρ, rl, sl, p.bnd fun v h1 x1 μ1 H1 e1 st1 rl1 rp1 p1 => ?_⟩
  obtain ⟨w, ew, q⟩ := p1.fin fun c' h' => fldop_ex
  unfold fldop at ew
  split at ew
  · rename_i fs efs
    split at ew
    · rename_i w' ew'
      cases ew
      obtain ⟨n, a, C, dx, fv, rfl, rfl, hm, hh, hH, hc, hk, hr⟩ := oview_ok rl1 rp1 efs
      obtain ⟨C', hc', cls, na⟩ := G.fls c f hf
      obtain rfl := hc.uniq hc'
      rcases obj_look f hk hr with ⟨z, _⟩ | ⟨p0, u, z1, z2, rv⟩
      · rw [ew'] at z; cases z
      · rw [ew'] at z1; cases z1
        exact ⟨a, C, dx, fv, u, rfl, hH, cls, na, z2, q u μ1 H1 .refl rl1 rv⟩
    · cases ew
  · cases ew
def tMethE (C : Addr) (m : Str) (sp : Sp) (E : L2.St → XK) (ta : TE) (t : TA) : TE := fun σ H Q => ta σ H fun x H1 => ∃ a dx fs, x = .ref a ∧ H1 a = some (.ins C dx fs) ∧ fs.lookup m = none ∧ t σ H1 fun vs H2 => sp (x :: vs) H2 Q (E σ)
section
variable {CX : CXT} {k' : Nat} {f C : Addr} {fd : FuncData} {ps : List Str} {sp : Sp} {E : L2.St → XK} {x m : Str} {p apos : Pos} {e o : Expr} {es : List Expr} {ta : TE} {t : TA}
theorem pe_methE {pl : Sem Bool} (he : PE X o ta) (c : Cls X.K C) (hm : Meth X.K C m f) (F : FnOk X.prog X.w X.K X.mg X.base CX k' f fd ps sp) (hr : Room k' X.A) (hb : Binds X.K fd ps []) (hx : ∀ σ, PassesAt CX X σ (E σ)) (ha : PA X (e :: es) t)
    (hst : starEach (e :: es) X.env = (false, eval e X.env) :: starEach es X.env) (hpl : (backTo pos (starEach es X.env)).any (·.1) = false)
    (ht : eval (.Call (.Attribute o m apos) (e :: es) [] pos) X.env = (do
      let ov ← eval o X.env
      standAt apos.atName
      let (f, first) ← holding [ov] (getMethod ov m pl)
      callWith pos f first (backTo pos (starEach (e :: es) X.env)) (backToKw pos (keywordEach [] X.env)))) :
    PE X (.Call (.Attribute o m apos) (e :: es) [] pos) (tMethE C m sp E ta t) := by
  refine ⟨fun pins s σ H Q I h => ?_⟩
  refine PySem.W.methodCall_KW (pl := pl) (thn (he.run pins s σ H _ I h) fun u s1 ⟨x, H1, I1, rx, a, dx, fs, ex, ea, l, q⟩ => ?_) ht
  subst ex
  obtain rfl : u = Value.ref a := rx
  refine getmeth_ok I1 ea c hm l ?_
  refine PySem.W.callWith_K (first := [.ref a]) (h₀ := X.base) I1.ok.mod.kin hm.kp (thn (ha.run pos pins s1 σ H1 _ I1 q) fun us s2 ⟨vs, H2, I2, r, q2⟩ => ⟨I2.kIn, ?_⟩) hst hpl
  exact run_fnS (us := .ref a :: us) (vs := .ref a :: vs) F hr hb (hx σ) I2 (.cons rfl r) q2
theorem pe_methE0 {pl : Sem Bool} (he : PE X o ta) (c : Cls X.K C) (hm : Meth X.K C m f) (F : FnOk X.prog X.w X.K X.mg X.base CX k' f fd ps sp) (hr : Room k' X.A) (hb : Binds X.K fd ps []) (hx : ∀ σ, PassesAt CX X σ (E σ))
    (ht : eval (.Call (.Attribute o m apos) [] [] pos) X.env = (do
      let ov ← eval o X.env
      standAt apos.atName
      let (f, first) ← holding [ov] (getMethod ov m pl)
      callWith pos f first (backTo pos (starEach [] X.env)) (backToKw pos (keywordEach [] X.env)))) :
    PE X (.Call (.Attribute o m apos) [] [] pos) (tMethE C m sp E ta tNil) := by
  refine ⟨fun pins s σ H Q I h => ?_⟩
  refine PySem.W.methodCall_KW (pl := pl) (thn (he.run pins s σ H _ I h) fun u s1 ⟨x, H1, I1, rx, a, dx, fs, ex, ea, l, q⟩ => ?_) ht
  subst ex
  obtain rfl : u = Value.ref a := rx
  refine getmeth_ok I1 ea c hm l ?_
  exact PySem.W.callWith_K0 (first := [.ref a]) I1.kIn hm.kp (run_fnS (us := [.ref a]) (vs := [.ref a]) F hr hb (hx σ) I1 (.cons rfl .nil) q)
theorem run_fnD {pins : List (Addr × Obj)} {σ : L2.St} {H : Hp} {s : Shared} {Q : VK} {us ds : List Value} {vs dvs : List V} (F : FnOk X.prog X.w X.K X.mg X.base CX k' f fd ps sp) (hr : Room k' X.A) (hb : Binds X.K fd ps ds) (hd : Vals dvs ds)
    (hx : PassesAt CX X σ (E σ)) (I : Inv X pins σ H s) (r : Vals vs us) (h : sp (vs ++ dvs) H Q (E σ)) : wpAny (model X.prog X.w) X.A (call (.ref f) us) (EP X pins σ Q) X.xe s := by
  have r2 : Vals (vs ++ dvs) (us ++ ds) := r.append hd
  have hl : (us ++ ds).length = ps.length := by rw [← r2.length]; exact F.len _ _ _ _ h
  have b := hb s us I.kIn hl
  refine wpAny_call (codeAny_mono (F.run X.A X.stack s H ⟨us, []⟩ (us ++ ds) (vs ++ dvs) Q (E σ) hr I.env0 b r2 h) fun r s' hq => ?_)
  cases r with
  | error e => exact hx pins H s e s' I hq
  | ok fl =>
    cases fl with
    | ret u =>
      obtain ⟨v, H', I3, rv, q3⟩ := I.after hq
      exact ⟨v, H', I3, rv, q3⟩
    | next => exact False.elim hq
    | brk => exact False.elim hq
    | cont => exact False.elim hq
def tMethD (C : Addr) (m : Str) (sp : Sp) (dvs : List V) (E : L2.St → XK) (ta : TE) (t : TA) : TE := fun σ H Q => ta σ H fun x H1 => ∃ a dx fs, x = .ref a ∧ H1 a = some (.ins C dx fs) ∧ fs.lookup m = none ∧ t σ H1 fun vs H2 => sp (x :: (vs ++ dvs)) H2 Q (E σ)
theorem pe_methD {ds : List Value} {dvs : List V} {pl : Sem Bool} (he : PE X o ta) (c : Cls X.K C) (hm : Meth X.K C m f) (F : FnOk X.prog X.w X.K X.mg X.base CX k' f fd ps sp) (hr : Room k' X.A) (hb : Binds X.K fd ps ds) (hd : Vals dvs ds) (hx : ∀ σ, PassesAt CX X σ (E σ)) (ha : PA X (e :: es) t)
    (hst : starEach (e :: es) X.env = (false, eval e X.env) :: starEach es X.env) (hpl : (backTo pos (starEach es X.env)).any (·.1) = false)
    (ht : eval (.Call (.Attribute o m apos) (e :: es) [] pos) X.env = (do
      let ov ← eval o X.env
      standAt apos.atName
      let (f, first) ← holding [ov] (getMethod ov m pl)
      callWith pos f first (backTo pos (starEach (e :: es) X.env)) (backToKw pos (keywordEach [] X.env)))) :
    PE X (.Call (.Attribute o m apos) (e :: es) [] pos) (tMethD C m sp dvs E ta t) := by
  refine ⟨fun pins s σ H Q I h => ?_⟩
  refine PySem.W.methodCall_KW (pl := pl) (thn (he.run pins s σ H _ I h) fun u s1 ⟨x, H1, I1, rx, a, dx, fs, ex, ea, l, q⟩ => ?_) ht
  subst ex
  obtain rfl : u = Value.ref a := rx
  refine getmeth_ok I1 ea c hm l ?_
  refine PySem.W.callWith_K (first := [.ref a]) (h₀ := X.base) I1.ok.mod.kin hm.kp (thn (ha.run pos pins s1 σ H1 _ I1 q) fun us s2 ⟨vs, H2, I2, r, q2⟩ => ⟨I2.kIn, ?_⟩) hst hpl
  exact run_fnD (us := .ref a :: us) (vs := .ref a :: vs) F hr hb hd (hx σ) I2 (.cons rfl r) q2
theorem pe_methD0 {ds : List Value} {dvs : List V} {pl : Sem Bool} (he : PE X o ta) (c : Cls X.K C) (hm : Meth X.K C m f) (F : FnOk X.prog X.w X.K X.mg X.base CX k' f fd ps sp) (hr : Room k' X.A) (hb : Binds X.K fd ps ds) (hd : Vals dvs ds) (hx : ∀ σ, PassesAt CX X σ (E σ))
    (ht : eval (.Call (.Attribute o m apos) [] [] pos) X.env = (do
      let ov ← eval o X.env
      standAt apos.atName
      let (f, first) ← holding [ov] (getMethod ov m pl)
      callWith pos f first (backTo pos (starEach [] X.env)) (backToKw pos (keywordEach [] X.env)))) :
    PE X (.Call (.Attribute o m apos) [] [] pos) (tMethD C m sp dvs E ta tNil) := by
  refine ⟨fun pins s σ H Q I h => ?_⟩
  refine PySem.W.methodCall_KW (pl := pl) (thn (he.run pins s σ H _ I h) fun u s1 ⟨x, H1, I1, rx, a, dx, fs, ex, ea, l, q⟩ => ?_) ht
  subst ex
  obtain rfl : u = Value.ref a := rx
  refine getmeth_ok I1 ea c hm l ?_
  exact PySem.W.callWith_K0 (first := [.ref a]) I1.kIn hm.kp (run_fnD (us := [.ref a]) (vs := [.ref a]) F hr hb hd (hx σ) I1 (.cons rfl .nil) q)
def tMakeE (C : Addr) (sp : Sp) (E : L2.St → XK) (t : TA) : TE := fun σ H Q => t σ H fun vs H1 => ∀ x dx, H1 x = none → H1 dx = none → dx ≠ x →
  sp (.ref x :: vs) (upd (upd H1 dx (.own x)) x (.ins C dx [])) (fun v H2 => v = .non ∧ Q (.ref x) H2) (E σ)
theorem run_makeE {pins : List (Addr × Obj)} {σ : L2.St} {H : Hp} {s : Shared} {Q : VK} {us : List Value} {vs : List V} (M : Mk X.K C f) (F : FnOk X.prog X.w X.K X.mg X.base CX k' f fd ps sp) (hr : Room (k' + 1) X.A) (hb : Binds X.K fd ps [])
    (hx : PassesAt CX X σ (E σ)) (I : Inv X pins σ H s) (r : Vals vs us)
    (h : ∀ x dx, H x = none → H dx = none → dx ≠ x → sp (.ref x :: vs) (upd (upd H dx (.own x)) x (.ins C dx [])) (fun v H2 => v = .non ∧ Q (.ref x) H2) (E σ)) :
    wpAny (model X.prog X.w) X.A (call (.ref C) us) (EP X pins σ Q) X.xe s := by
  have hq := h (s.heap.objs.size + 1) s.heap.objs.size (I.hok.fresh (Nat.le_succ _)) (I.hok.fresh (Nat.le_refl _)) (Nat.ne_of_lt (Nat.lt_succ_self _))
  have I2 := Inv.made (C := C) I
  have r2 : Vals (V.ref (s.heap.objs.size + 1) :: vs) (Value.ref (s.heap.objs.size + 1) :: us) := .cons rfl r
  have hl : (Value.ref (s.heap.objs.size + 1) :: us).length = ps.length := by
    rw [← r2.length]
    exact F.len _ _ _ _ hq
  have b := hb _ (Value.ref (s.heap.objs.size + 1) :: us) I2.kIn (by rw [List.append_nil]; exact hl)
  rw [List.append_nil] at b
  refine wpAny_call (make_map (f := f) I.kIn M.makes M.init (beq_iff_eq.mp M.fn) (codeAny_mono (F.run _ X.stack _ _ ⟨Value.ref (s.heap.objs.size + 1) :: us, []⟩ (Value.ref (s.heap.objs.size + 1) :: us) _ _ (E σ) (hr.make C us [])
    (I2.env0.make C us []) b r2 hq) fun r s' hq' => ?_))
  cases r with
  | error e => exact hx pins _ _ e s' I2 hq'
  | ok fl =>
    cases fl with
    | ret u =>
      obtain ⟨v, H', I3, rv, ev, q3⟩ := I2.after hq'
      subst ev
      exact ⟨rv, ⟨V.ref (s.heap.objs.size + 1), H', I3, rfl, q3⟩⟩
    | next => exact False.elim hq'
    | brk => exact False.elim hq'
    | cont => exact False.elim hq'
theorem pe_makeE (M : Mk X.K C f) (F : FnOk X.prog X.w X.K X.mg X.base CX k' f fd ps sp) (hr : Room (k' + 1) X.A) (hg : Gl X x) (hm : X.mg x = some (.ref C)) (hb : Binds X.K fd ps []) (hx : ∀ σ, PassesAt CX X σ (E σ))
    (ha : PA X (e :: es) t) (hdb : (x == ("__debug__" : Str)) = false) (he : starEach (e :: es) X.env = (false, eval e X.env) :: starEach es X.env) (hpl : (backTo pos (starEach es X.env)).any (·.1) = false) :
    PE X (.Call (.Name x p) (e :: es) [] pos) (tMakeE C sp E t) := by
  refine ⟨fun pins s σ H Q I h => ?_⟩
  refine wpAny_Call_Name_kw (ld_glob I hg hm ?_ hdb)
  refine PySem.W.callWith_K (h₀ := X.base) I.ok.mod.kin M.kp (thn (ha.run pos pins s σ H _ I h) fun us s1 ⟨vs, H1, I1, r, q⟩ => ⟨I1.kIn, ?_⟩) he hpl
  exact run_makeE M F hr hb (hx σ) I1 r q
theorem pe_makeE0 (M : Mk X.K C f) (F : FnOk X.prog X.w X.K X.mg X.base CX k' f fd ps sp) (hr : Room (k' + 1) X.A) (hg : Gl X x) (hm : X.mg x = some (.ref C)) (hb : Binds X.K fd ps []) (hx : ∀ σ, PassesAt CX X σ (E σ))
    (hdb : (x == ("__debug__" : Str)) = false) : PE X (.Call (.Name x p) [] [] pos) (tMakeE C sp E tNil) := by
  refine ⟨fun pins s σ H Q I h => ?_⟩
  refine wpAny_Call_Name_kw (ld_glob I hg hm ?_ hdb)
  exact PySem.W.callWith_K0 I.kIn M.kp (run_makeE (us := []) M F hr hb (hx σ) I .nil h)
end
theorem PostG.imp {α β : Type} {K : PySem.W.Frag} [Wd K] {B : List Addr} {σ : L2.St} {rel : List Addr → Hp → α → β → Prop} {Q Q' : β → Hp → Prop} {r : R (α × MH)} {μ : List Addr} {H : Hp} (p : PostG K B XC W σ rel Q r μ H) (i : ∀ x H', Q x H' → Q' x H') : PostG K B XC W σ rel Q' r μ H := by
  match r, p with
  | .ok (v, h'), p => exact fun x μ' H' st rl rp => i x H' (p x μ' H' st rl rp)
  | .error .stuck, p => exact p
  | .error (.exc c h'), p => exact p
theorem few_ok {xs : List Expr} (hp : xs.all plainHd = true) (hl : xs.length < 29) (pos : Pos) (env : Env) : methodCallForm (xs.length + ([] : List Keyword).length) (backTo pos (starEach xs env)) (backToKw pos (keywordEach [] env)) = true := by
  have h1 := plain_any (pos := pos) (env := env) hp
  unfold methodCallForm
  have h2 : (backTo pos (starEach xs env)).all (fun x => !x.1) = true := by
    rw [List.any_eq_false] at h1
    rw [List.all_eq_true]
    intro x hx
    have := h1 x hx
    simpa using this
  have h3 : (backToKw pos (keywordEach [] env)).all (fun x => x.1.isSome) = true := rfl
  have h4 : decide (xs.length + ([] : List Keyword).length + (if (backToKw pos (keywordEach [] env)).isEmpty then 0 else 1) < 30) = true := by
    have : (backToKw pos (keywordEach [] env)).isEmpty = true := rfl
    rw [decide_eq_true_eq, this]
    simp
    omega
  simp only [h2, h3, Bool.true_and]
  exact h4
theorem meth_tree {o : Expr} (h : recvHd o = true) (m : Str) (apos pos : Pos) (es : List Expr) (env : Env) (hp : es.all plainHd = true) (hl : es.length < 29) (hline : (apos.endLine == pos.line) = true) : ∃ pl : Sem Bool, eval (.Call (.Attribute o m apos) es [] pos) env = (do
      let ov ← eval o env
      standAt apos.atName
      let (f, first) ← holding [ov] (getMethod ov m pl)
      callWith pos f first (backTo pos (starEach es env)) (backToKw pos (keywordEach [] env))) := by
  refine ⟨do return (← importBound o env).getD true, ?_⟩
  rw [arm_eval_Call, recv_base h]
  unfold methodCall
  rw [few_ok hp hl]
  have : methodCallPos true o env apos pos = pure pos := by
    unfold methodCallPos
    rw [hline]
    rfl
  rw [this]
  rfl
theorem s_mcall {c nm : Str} {f : String} {o : E} {es : Es} {ox : Expr} {xs : List Expr} {apos : Pos} (G : Good pg k N XC sc X) (tk : Takes X W) (hf : mtB pg f c nm = true) (ho : recvHd ox = true) (iho : PE X ox (rdE X.K XC W pg k o)) (ih : PA X xs (rdEs X.K XC W pg k es)) (hp : xs.all plainHd = true) (hes : xs = [] → es = .nil) (hl : xs.length < 29) (hline : (apos.endLine == pos.line) = true) :
    PE X (.Call (.Attribute ox nm apos) xs [] pos) (rdE X.K XC W pg k (.mcall c nm f o es)) := by
  obtain ⟨d, ed, ex, ecl⟩ := mtB_ok hf
  obtain ⟨C, a, fdt, ps, hC, cls, hm, ⟨hb, _⟩, F⟩ := G.mts f d c ed ecl
  rw [ex] at hm
  have hx : ∀ σ, PassesAt (L2.CX X.prog X.w) X σ (WE W σ) := fun σ => passAt tk σ
  have main : ∀ σ H Q, rdE X.K XC W pg k (.mcall c nm f o es) σ H Q → tMethE C nm (spF X.K XC pg k f) (WE W) (rdE X.K XC W pg k o) (rdEs X.K XC W pg k es) σ H Q := fun σ H Q hq => by
    obtain ⟨B, μ, h0, ρ, rl, sl, p⟩ := hq
    simp only [evE] at p
    refine ⟨B, μ, h0, ρ, rl, sl, p.bnd fun v h1 x1 μ1 H1 e1 st1 rl1 rp1 p1 => ?_⟩
    simp only at p1
    split at p1
    · rename_i ob
      unfold isOb at ob
      split at ob
      · rename_i fs efs
        obtain ⟨n, b, C', dx, fv, rfl, rfl, hmu, hh, hH, hc, hk, hr⟩ := oview_ok rl1 rp1 efs
        obtain rfl := hc.uniq hC
        have l0 : fv.lookup nm = none := by
          rcases obj_look nm hk hr with ⟨_, z⟩ | ⟨p0, u, z1, _, _⟩
          · exact z
          · rw [z1] at ob; cases ob
        refine ⟨b, dx, fv, rfl, hH, l0, B, μ1, h1, ρ, rl1, sl.step st1, p1.bnd fun vs h2 ys μ2 H2 e2 st2 rl2 rp2 p2 => ?_⟩
        exact ⟨B, μ2, h2, .ref n :: vs, rl2, .cons (rp1.step st2) rp2, p2.at⟩
      · cases ob
    · exact p1.elim
  cases xs with
  | nil =>
    have e0 : es = .nil := hes rfl
    subst e0
    obtain ⟨pl, ht⟩ := meth_tree ho nm apos pos [] X.env hp hl hline
    refine PE.imp (pe_methE0 iho cls hm F G.room hb hx ht) fun σ H Q hq => ?_
    obtain ⟨B, μ, h0, ρ, rl, sl, p⟩ := main σ H Q hq
    refine ⟨B, μ, h0, ρ, rl, sl, ?_⟩
    refine PostG.imp p fun x H' z => ?_
    obtain ⟨b, dx, fv, h1, h2, h3, z⟩ := z
    refine ⟨b, dx, fv, h1, h2, h3, ?_⟩
    obtain ⟨B', μ', h', ρ', rl', sl', p'⟩ := z
    simp only [evEs] at p'
    exact p' [] μ' H' .refl rl' .nil
  | cons y ys =>
    obtain ⟨h1, h2⟩ := fst_any hp
    obtain ⟨pl, ht⟩ := meth_tree ho nm apos pos (y :: ys) X.env hp hl hline
    exact PE.imp (pe_methE iho cls hm F G.room hb hx ih (plain_star h1 ys _) (plain_any h2) ht) main
theorem s_mcallD {c nm : Str} {f : String} {o : E} {es : Es} {ox : Expr} {xs : List Expr} {apos : Pos} (G : Good pg k N XC sc X) (tk : Takes X W) (hdf : pg.df f = true) (hf : mtB pg f c nm = true) (ho : recvHd ox = true) (iho : PE X ox (rdE X.K XC W pg k o)) (ih : PA X xs (rdEs X.K XC W pg k es)) (hp : xs.all plainHd = true) (hes : xs = [] → es = .nil) (hl : xs.length < 29) (hline : (apos.endLine == pos.line) = true) :
    PE X (.Call (.Attribute ox nm apos) xs [] pos) (rdE X.K XC W pg k (.mcallD c nm f o es)) := by
  obtain ⟨d, ed, ex, ecl⟩ := mtB_ok hf
  obtain ⟨C, a, fdt, ps, hC, cls, hm, ⟨_, hbd⟩, F⟩ := G.mts f d c ed ecl
  rw [ex] at hm
  have hb := hbd hdf
  have hdv : Vals [V.non] [Value.none] := .cons rfl .nil
  have hx : ∀ σ, PassesAt (L2.CX X.prog X.w) X σ (WE W σ) := fun σ => passAt tk σ
  have main : ∀ σ H Q, rdE X.K XC W pg k (.mcallD c nm f o es) σ H Q → tMethD C nm (spF X.K XC pg k f) [.non] (WE W) (rdE X.K XC W pg k o) (rdEs X.K XC W pg k es) σ H Q := fun σ H Q hq => by
    obtain ⟨B, μ, h0, ρ, rl, sl, p⟩ := hq
    simp only [evE] at p
    refine ⟨B, μ, h0, ρ, rl, sl, p.bnd fun v h1 x1 μ1 H1 e1 st1 rl1 rp1 p1 => ?_⟩
    simp only at p1
    split at p1
    · rename_i ob
      unfold isOb at ob
      split at ob
      · rename_i fs efs
        obtain ⟨n, b, C', dx, fv, rfl, rfl, hmu, hh, hH, hc, hk, hr⟩ := oview_ok rl1 rp1 efs
        obtain rfl := hc.uniq hC
        have l0 : fv.lookup nm = none := by
          rcases obj_look nm hk hr with ⟨_, z⟩ | ⟨p0, u, z1, _, _⟩
          · exact z
          · rw [z1] at ob; cases ob
        refine ⟨b, dx, fv, rfl, hH, l0, B, μ1, h1, ρ, rl1, sl.step st1, p1.bnd fun vs h2 ys μ2 H2 e2 st2 rl2 rp2 p2 => ?_⟩
        exact ⟨B, μ2, h2, .ref n :: (vs ++ [.non]), rl2, .cons (rp1.step st2) (rp2.append (.cons .non .nil)), p2.at⟩
      · cases ob
    · exact p1.elim
  cases xs with
  | nil =>
    have e0 : es = .nil := hes rfl
    subst e0
    obtain ⟨pl, ht⟩ := meth_tree ho nm apos pos [] X.env hp hl hline
    refine PE.imp (pe_methD0 iho cls hm F G.room hb hdv hx ht) fun σ H Q hq => ?_
    obtain ⟨B, μ, h0, ρ, rl, sl, p⟩ := main σ H Q hq
    refine ⟨B, μ, h0, ρ, rl, sl, ?_⟩
    refine PostG.imp p fun x H' z => ?_
    obtain ⟨b, dx, fv, h1, h2, h3, z⟩ := z
    refine ⟨b, dx, fv, h1, h2, h3, ?_⟩
    obtain ⟨B', μ', h', ρ', rl', sl', p'⟩ := z
    simp only [evEs] at p'
    exact p' [] μ' H' .refl rl' .nil
  | cons y ys =>
    obtain ⟨h1, h2⟩ := fst_any hp
    obtain ⟨pl, ht⟩ := meth_tree ho nm apos pos (y :: ys) X.env hp hl hline
    exact PE.imp (pe_methD iho cls hm F G.room hb hdv hx ih (plain_star h1 ys _) (plain_any h2) ht) main
theorem lookup_mem' {β : Type} {c : Str} {f : β} : ∀ {cs : List (Str × β)}, cs.lookup c = some f → (c, f) ∈ cs
  | [], h => by cases h
  | (a, b) :: cs, h => by
    rw [List.lookup_cons] at h
    split at h
    · rename_i e
      cases h
      rw [beq_iff_eq] at e
      rw [e]
      exact List.mem_cons_self
    · exact List.mem_cons_of_mem _ (lookup_mem' h)
theorem s_mcallV {cs : List (Str × String)} {nm : Str} {dd : Bool} {o : E} {es : Es} {x : Expr} (hc : cs.isEmpty = false)
    (ih : ∀ c f, (c, f) ∈ cs → PE X x (rdE X.K XC W pg k (if dd = true then .mcallD c nm f o es else .mcall c nm f o es))) : PE X x (rdE X.K XC W pg k (.mcallV cs nm dd o es)) := by
  refine ⟨fun pins s σ H Q I q => ?_⟩
  obtain ⟨B, μ, h0, ρ, rl, sl, p⟩ := q
  simp only [evE] at p
  have main : ∀ c f, (c, f) ∈ cs → (∀ v h1, evE (run pg k) pg.gl o ρ h0 = .ok (v, h1) → clsOf v h1 = some c ∧ cs.lookup c = some f) → evE (run pg k) pg.gl o ρ h0 ≠ .error .stuck →
      rdE X.K XC W pg k (if dd = true then .mcallD c nm f o es else .mcall c nm f o es) σ H Q := by
    intro c f hm hv hs
    refine ⟨B, μ, h0, ρ, rl, sl, ?_⟩
    cases dd with
    | true =>
      simp only [if_true, evE]
      cases eo : evE (run pg k) pg.gl o ρ h0 with
      | ok r =>
        obtain ⟨v, h1⟩ := r
        obtain ⟨z1, z2⟩ := hv v h1 eo
        simp only [eo, bnd_ok, z1, z2, if_true] at p ⊢
        exact p
      | error er =>
        simp only [eo] at p ⊢
        exact p
    | false =>
      simp only [Bool.false_eq_true, if_false, evE]
      cases eo : evE (run pg k) pg.gl o ρ h0 with
      | ok r =>
        obtain ⟨v, h1⟩ := r
        obtain ⟨z1, z2⟩ := hv v h1 eo
        simp only [eo, bnd_ok, z1, z2, Bool.false_eq_true, if_false, List.append_nil] at p ⊢
        exact p
      | error er =>
        simp only [eo] at p ⊢
        exact p
  cases eo : evE (run pg k) pg.gl o ρ h0 with
  | ok r =>
    obtain ⟨v, h1⟩ := r
    rw [eo, bnd_ok] at p
    simp only at p
    split at p
    · rename_i c hcl
      split at p
      · rename_i f hf
        have hm := lookup_mem' hf
        exact (ih c f hm).run pins s σ H Q I (main c f hm (fun v' h' z => by rw [eo] at z; cases z; exact ⟨hcl, hf⟩) (by rw [eo]; intro z; cases z))
      · exact p.elim
    · exact p.elim
  | error er =>
    cases er with
    | stuck => rw [eo] at p; exact p.elim
    | exc c h' =>
      cases cs with
      | nil => cases hc
      | cons cf cs =>
        obtain ⟨c0, f0⟩ := cf
        exact (ih c0 f0 List.mem_cons_self).run pins s σ H Q I (main c0 f0 List.mem_cons_self (fun v' h' z => by rw [eo] at z; cases z) (by rw [eo]; intro z; cases z))
theorem s_make {f : String} {es : Es} {x : Str} {xs : List Expr} {p : Pos} (G : Good pg k N XC sc X) (tk : Takes X W) (hg : glB sc x = true) (hf : mkB pg f x = true) (ih : PA X xs (rdEs X.K XC W pg k es)) (hp : xs.all plainHd = true) (hes : xs = [] → es = .nil) :
    PE X (.Call (.Name x p) xs [] pos) (rdE X.K XC W pg k (.make f es)) := by
  obtain ⟨g1, g2, _⟩ := G.glob hg
  obtain ⟨g, eg, efn⟩ := mkB_ok hf
  obtain ⟨C, a, hC, M, hm, hfn⟩ := G.mks f x g eg
  have hx : ∀ σ, PassesAt (L2.CX X.prog X.w) X σ (WE W σ) := fun σ => passAt tk σ
  cases k with
  | zero =>
    have stop : ∀ σ H Q, rdE X.K XC W pg 0 (.make f es) σ H Q → rdEs X.K XC W pg 0 es σ H fun _ _ => False := fun σ H Q hq => by
      obtain ⟨B, μ, h0, ρ, rl, sl, p⟩ := hq
      simp only [evE] at p
      refine ⟨B, μ, h0, ρ, rl, sl, p.bnd fun vs h1 ys μ1 H1 e1 st1 rl1 rp1 p1 => ?_⟩
      exact (show False from p1)
    cases xs with
    | nil =>
      have e0 : es = .nil := hes rfl
      subst e0
      refine ⟨fun pins s σ H Q I q => ?_⟩
      have z := stop σ H Q q
      obtain ⟨B, μ, h0, ρ, rl, sl, p⟩ := z
      simp only [evEs] at p
      exact (p [] μ H .refl rl .nil).elim
    | cons y ys =>
      obtain ⟨h1, h2⟩ := fst_any hp
      refine ⟨fun pins s σ H Q I q => ?_⟩
      refine wpAny_Call_Name_kw (ld_glob I g1 hm ?_ g2)
      exact PySem.W.callWith_K (h₀ := X.base) I.ok.mod.kin M.kp (thn (ih.run pos pins s σ H _ I (stop σ H Q q)) fun us s1 ⟨vs, H1, I1, r, q⟩ => q.elim) (plain_star h1 ys _) (plain_any h2)
  | succ k' =>
    obtain ⟨fdt, ps, hb, F⟩ := hfn k' rfl
    have main : ∀ σ H Q, rdE X.K XC W pg (k' + 1) (.make f es) σ H Q → tMakeE C (spF X.K XC pg k' g) (WE W) (rdEs X.K XC W pg (k' + 1) es) σ H Q := fun σ H Q hq => by
      obtain ⟨B, μ, h0, ρ, rl, sl, p⟩ := hq
      simp only [evE] at p
      refine ⟨B, μ, h0, ρ, rl, sl, p.bnd fun vs h1 ys μ1 H1 e1 st1 rl1 rp1 p1 => ?_⟩
      intro q dx hq hdx hne
      have rl2 := rl1.new (o := .own q) hdx
      have hq2 : upd H1 dx (.own q) q = none := by rw [upd_ne (Ne.symm hne)]; exact hq
      have rl3 : Rel X.K B (μ1 ++ [q]) (h1 ++ [.obj x []]) (upd (upd H1 dx (.own q)) q (.ins C dx [])) := rl2.newCellC hq2 fun st e => ⟨C, dx, [], e, hC, rfl, .nil⟩
      have st3 : Step μ1 H1 (μ1 ++ [q]) (upd (upd H1 dx (.own q)) q (.ins C dx [])) := (Step.new hdx).trans (.newCell hq2)
      refine ⟨B, μ1 ++ [q], h1 ++ [.obj x []], .ref h1.length :: vs, rl3, .cons (Step.newRef rl2) (rp1.step st3), ?_⟩
      have ev : run pg (k' + 1) f vs h1 = bnd (run pg k' g (.ref h1.length :: vs) (h1 ++ [.obj x []])) fun y => if isNon y.1 = true then .ok (.ref h1.length, y.2) else stk := by
        rw [run, efn]
        simp only [eg]
      simp only at p1
      rw [ev] at p1
      have p2 := (PostG.step p1 st3).at
      refine p2.bnd fun v h2 y μ2 H2 e2 st2 rl4 rp4 p3 => ?_
      simp only at p3
      split at p3
      · rename_i hn
        cases v with
        | non =>
          refine ⟨Rep.non_iff.mp rp4, p3 (.ref q) μ2 H2 .refl rl4 ?_⟩
          exact (Step.newRef (H2 := upd (upd H1 dx (.own q)) q (.ins C dx [])) (p := q) rl2).step st2
        | _ => simp [isNon] at hn
      · exact p3.elim
    cases xs with
    | nil =>
      have e0 : es = .nil := hes rfl
      subst e0
      refine PE.imp (pe_makeE0 M F G.room g1 hm hb hx g2) fun σ H Q hq => ?_
      obtain ⟨B, μ, h0, ρ, rl, sl, p⟩ := main σ H Q hq
      simp only [evEs] at p
      exact p [] μ H .refl rl .nil
    | cons y ys =>
      obtain ⟨h1, h2⟩ := fst_any hp
      exact PE.imp (pe_makeE M F G.room g1 hm hb hx ih g2 (plain_star h1 ys _) (plain_any h2)) main

def trsOf (K : PySem.W.Frag) [Wd K] (XC : XCT) (W : WX) (pg : Pg) (k : Nat) : List L2.Key → Es → List (TE × TE)
  | j :: ks, .cons e es => (tC (L2.kV j), rdE K XC W pg k e) :: trsOf K XC W pg k ks es
  | _, _ => []
theorem tpairs_ok : ∀ {ks : List L2.Key} {es : Es} {σ : L2.St} {H : Hp} {Q : List (V × V) → Hp → Prop}, ks.length = esLen es → rdEs X.K XC W pg k es σ H (fun vs H' => Q ((ks.map L2.kV).zip vs) H') → tPairs (trsOf X.K XC W pg k ks es) σ H Q
  | [], .nil, σ, H, Q, _, hq => by
    obtain ⟨B, μ, h0, ρ, rl, sl, p⟩ := hq
    simp only [evEs] at p
    exact p [] μ H .refl rl .nil
  | [], .cons _ _, _, _, _, h, _ => by simp [esLen] at h
  | _ :: _, .nil, _, _, _, h, _ => by simp [esLen] at h
  | j :: ks, .cons e es, σ, H, Q, h, hq => by
    obtain ⟨B, μ, h0, ρ, rl, sl, p⟩ := hq
    simp only [evEs] at p
    refine (show rdE X.K XC W pg k e σ H fun y H2 => tPairs (trsOf X.K XC W pg k ks es) σ H2 fun ps H3 => Q ((L2.kV j, y) :: ps) H3 from ?_)
    refine ⟨B, μ, h0, ρ, rl, sl, p.bnd fun v h1 x μ1 H1 _ st1 rl1 rp1 p1 => ?_⟩
    refine tpairs_ok (by simp only [List.length_cons, esLen] at h; omega) ⟨B, μ1, h1, ρ, rl1, sl.step st1, p1.bnd fun vs h2 ys μ2 H2 _ st2 rl2 rp2 p2 => ?_⟩
    exact p2 (x :: ys) μ2 H2 .refl rl2 (.cons (rp1.step st2) rp2)
theorem merge_app : ∀ (kvs acc : List (L2.Key × V)), (acc.map (·.1) ++ kvs.map (·.1)).Nodup → L2.mergeK acc kvs = acc ++ kvs
  | [], acc, _ => by simp [L2.mergeK]
  | (j, v) :: kvs, acc, h => by
    have hj : (acc.any fun kv => decide (kv.1 = j)) = false := by
      rw [List.any_eq_false]
      intro x hx z
      have e : x.1 = j := of_decide_eq_true z
      rw [List.nodup_append] at h
      exact h.2.2 x.1 (List.mem_map_of_mem hx) j (by simp) e
    have e1 : L2.putK acc j v = acc ++ [(j, v)] := by
      unfold L2.putK
      rw [hj]
      rfl
    show L2.mergeK (L2.putK acc j v) kvs = _
    rw [e1, merge_app kvs (acc ++ [(j, v)]) (by simpa using h)]
    simp
theorem keyB_good {j : L2.Key} {x : Option Expr} (h : keyB j x = true) : ∀ s, j = Sum.inr s → StrGood s := by
  rintro s rfl
  cases x with
  | none => simp [keyB] at h
  | some x =>
    unfold keyB at h
    split at h
    · rename_i q _; cases q
    · rename_i q1 q2
      cases q1
      simp only [Bool.and_eq_true, decide_eq_true_eq] at h
      exact ⟨h.1.2, h.2⟩
    · cases h
theorem keysB_good : ∀ {ks : List L2.Key} {xs : List (Option Expr)}, keysB ks xs = true → ∀ s, Sum.inr s ∈ ks → StrGood s
  | [], _, _, s, hs => by simp at hs
  | _ :: _, [], h, _, _ => by simp [keysB] at h
  | j :: ks, x :: xs, h, s, hs => by
    simp only [keysB, Bool.and_eq_true] at h
    rcases List.mem_cons.mp hs with e | hs
    · exact keyB_good h.1 s e.symm
    · exact keysB_good h.2 s hs
theorem keysB_some : ∀ {ks : List L2.Key} {xs : List (Option Expr)}, keysB ks xs = true → xs.all (·.isSome) = true ∧ xs.length = ks.length
  | [], [], _ => ⟨rfl, rfl⟩
  | [], _ :: _, h => by simp [keysB] at h
  | _ :: _, [], h => by simp [keysB] at h
  | j :: ks, x :: xs, h => by
    simp only [keysB, Bool.and_eq_true] at h
    obtain ⟨h1, h2⟩ := keysB_some h.2
    cases x with
    | none => cases j <;> simp [keyB] at h
    | some x => exact ⟨by simp [h1], by simp [h2]⟩
theorem pe_key {j : L2.Key} {x : Expr} (h : keyB j (some x) = true) : PE X x (tC (L2.kV j)) := by
  unfold keyB at h
  split at h
  · rename_i q
    cases q
    have := of_decide_eq_true h
    subst this
    exact pe_int
  · rename_i q
    cases q
    simp only [Bool.and_eq_true, decide_eq_true_eq] at h
    have := h.1.1
    subst this
    exact pe_str
  · cases h
theorem dispop_ex {n : Nat} {ks : List L2.Key} {vs : List PV} {h : MH} {c : Str} {h' : MH} : dispop n ks vs h ≠ .error (.exc c h') := by
  unfold dispop
  split
  · split
    · intro z; cases z
    · intro z; cases z
  · intro z; cases z
theorem zip_fst {α β : Type} : ∀ {a : List α} {b : List β}, a.length = b.length → (a.zip b).map (·.1) = a
  | [], [], _ => rfl
  | _ :: _, [], h => by simp at h
  | [], _ :: _, h => by simp at h
  | x :: a, y :: b, h => by simp only [List.zip_cons_cons, List.map_cons]; rw [zip_fst (by simpa using h)]
theorem zip_snd {α β : Type} : ∀ {a : List α} {b : List β}, a.length = b.length → (a.zip b).map (·.2) = b
  | [], [], _ => rfl
  | _ :: _, [], h => by simp at h
  | [], _ :: _, h => by simp at h
  | x :: a, y :: b, h => by simp only [List.zip_cons_cons, List.map_cons]; rw [zip_snd (by simpa using h)]
theorem s_ddisp {ks : List L2.Key} {es : Es} {kx : List (Option Expr)} {vx : List Expr} (hk : keysB ks kx = true) (hp : PPs X pos kx vx (trsOf X.K XC W pg k ks es)) (hn : ks.Nodup) (h0 : 0 < ks.length) (h15 : ks.length ≤ 15) (hl : esLen es = ks.length) (hv : vx.length = esLen es) :
    PE X (.Dict kx vx pos) (rdE X.K XC W pg k (.ddisp ks es)) := by
  obtain ⟨k1, k2⟩ := keysB_some hk
  refine PE.imp (pe_disp hp k1 (by rw [k2, hv, hl]) (fun z => by rw [z] at k2; simp at k2; omega) (by omega)) fun σ H Q hq => ?_
  obtain ⟨B, μ, h1, ρ, rl, sl, p⟩ := hq
  simp only [evE] at p
  intro q hq
  have st0 : Step μ H (μ ++ [q]) (upd H q (.dK [])) := .newCell hq
  refine tpairs_ok hl.symm ⟨B, μ ++ [q], h1 ++ [.dct []], ρ, rl.newDct hq, sl.step st0, (PostG.step p st0).bnd fun vs h2 ys μ1 H1 e1 st1 rl1 rp1 p1 => ?_⟩
  obtain ⟨w, ew, fin⟩ : ∃ w, dispop h1.length ks vs h2 = .ok w ∧ ∀ y μ' H', Step μ1 H1 μ' H' → Rel X.K B μ' w H' → Rep X.K B μ' H' (.ref h1.length) y → Q y H' := by
    simp only at p1
    cases ed : dispop h1.length ks vs h2 with
    | ok w => rw [ed] at p1; exact ⟨w, rfl, p1⟩
    | error er =>
      rw [ed] at p1
      cases er with
      | stuck => exact p1.elim
      | exc c h' => exact absurd ed dispop_ex
  unfold dispop at ew
  split at ew
  · rename_i hd
    split at ew
    · rename_i hlen
      cases ew
      obtain ⟨a, kvs, ha, hH, ⟨hke, _⟩, _⟩ := rl1.dct hd
      have hm : μ1[h1.length]? = some q := st1.get (by rw [← rl.len]; simp)
      rw [hm] at ha; cases ha
      have kn : kvs = [] := by simpa using hke
      subst kn
      have ly : ys.length = ks.length := by rw [← rp1.length]; exact hlen
      refine ⟨hH, ks.zip ys, ?_, by rw [List.length_zip, ly, Nat.min_self]; exact h15, ?_⟩
      · have : ∀ (ks : List L2.Key) (ys : List V), (ks.map L2.kV).zip ys = (ks.zip ys).map fun kv => (L2.kV kv.1, kv.2) := fun ks => by
          induction ks with
          | nil => intro ys; simp
          | cons a ks ih => intro ys; cases ys with
            | nil => simp
            | cons y ys => simp [ih]
        exact this ks ys
      · have z1 := zip_fst (a := ks) (b := ys) ly.symm
        have z2 := zip_fst (a := ks) (b := vs) hlen.symm
        have z3 := zip_snd (a := ks) (b := ys) ly.symm
        have z4 := zip_snd (a := ks) (b := vs) hlen.symm
        rw [merge_app (ks.zip ys) [] (by rw [z1]; simpa using hn), List.nil_append]
        refine fin (.ref q) μ1 _ (.write hm (nfz hH)) (rl1.writeD hm (nfz hH) ⟨by rw [z1, z2], by rw [z2]; exact keysB_good hk⟩ (by rw [z3, z4]; exact rp1)) (Rep.ref_iff.mpr ⟨q, rfl, hm⟩)
    · cases ew
  · cases ew
end
end Rg

namespace Rg
open PySem PySem.Spec PyProof.Rows L2
theorem wipe_get (σ : L2.St) (k : Nat) : ∀ vs : List Nat, (L2.wipe σ vs)[k]? = if k ∈ vs then (σ[k]?).map (fun _ => none) else σ[k]?
  | [] => by simp [L2.wipe]
  | v :: vs => by
    show ((L2.wipe σ vs).set v none)[k]? = _
    by_cases e : v = k
    · subst e
      rw [if_pos List.mem_cons_self]
      rw [List.getElem?_set_self']
      have ih := wipe_get σ v vs
      rw [ih]
      split
      · cases σ[v]? <;> rfl
      · cases σ[v]? <;> rfl
    · rw [List.getElem?_set_ne e, wipe_get σ k vs]
      by_cases h : k ∈ vs
      · rw [if_pos h, if_pos (List.mem_cons_of_mem _ h)]
      · rw [if_neg h, if_neg (fun z => (List.mem_cons.mp z).elim (fun q => e q.symm) h)]
theorem wipe_set {σ : L2.St} {i : Nat} {x : Option V} {own : List Nat} (h : i ∈ own) : L2.wipe (σ.set i x) own = L2.wipe σ own := by
  apply List.ext_getElem?
  intro k
  rw [wipe_get, wipe_get]
  by_cases hk : k ∈ own
  · rw [if_pos hk, if_pos hk]
    by_cases e : i = k
    · subst e
      rw [List.getElem?_set_self']
      cases σ[i]? <;> rfl
    · rw [List.getElem?_set_ne e]
  · rw [if_neg hk, if_neg hk]
    have e : i ≠ k := fun e => hk (e ▸ h)
    rw [List.getElem?_set_ne e]
theorem wipe_wipe (σ : L2.St) (own : List Nat) : L2.wipe (L2.wipe σ own) own = L2.wipe σ own := by
  apply List.ext_getElem?
  intro k
  rw [wipe_get, wipe_get]
  by_cases hk : k ∈ own
  · rw [if_pos hk, if_pos hk]
    cases σ[k]? <;> rfl
  · rw [if_neg hk, if_neg hk]
def gOr (t u : TG) : TG := fun v σ H Q => t v σ H Q ∨ u v σ H Q
theorem pg_or {X : Cx} {e : Expr} {t u : TG} (h1 : PG X e t) (h2 : PG X e u) : PG X e (gOr t u) :=
  ⟨fun pins s σ H v x Q I r h => h.elim (h1.run pins s σ H v x Q I r) (h2.run pins s σ H v x Q I r)⟩
def rdG (K : PySem.W.Frag) [Wd K] : Tg → TG
  | .name i => gName i
  | .tup2 a b => gOr (gTup K 2 (gCons (rdG K a) (gCons (rdG K b) gNil))) (gLst K 2 (gCons (rdG K a) (gCons (rdG K b) gNil)))
  | .tup3 a b c => gTup K 3 (gCons (rdG K a) (gCons (rdG K b) (gCons (rdG K c) gNil)))
  | .tup4 a b c d => gTup K 4 (gCons (rdG K a) (gCons (rdG K b) (gCons (rdG K c) (gCons (rdG K d) gNil))))
  | .tup5 a b c d e => gTup K 5 (gCons (rdG K a) (gCons (rdG K b) (gCons (rdG K c) (gCons (rdG K d) (gCons (rdG K e) gNil)))))
  | .tup6 a b c d e f => gTup K 6 (gCons (rdG K a) (gCons (rdG K b) (gCons (rdG K c) (gCons (rdG K d) (gCons (rdG K e) (gCons (rdG K f) gNil))))))
theorem plain_asg {x : Expr} (h : plainHd x = true) (xs : List Expr) (env : Env) : assignEach (x :: xs) env = (false, assign x env) :: assignEach xs env := by
  cases x <;> first | rfl | (simp [plainHd] at h)
section
variable {pg : Pg} {k : Nat} {N : List Str} {XC : XCT} {sc : Scope} {X : Cx} {W : WX} {pos : Pos}
theorem s_tg (G : Good pg k N XC sc X) : ∀ {t : Tg} {x : Expr}, tgB N sc t x = true → PG X x (rdG X.K t)
  | .name i, x, h => by
    cases x with
    | Name y p =>
      simp only [tgB, ltB, Bool.and_eq_true, decide_eq_true_eq] at h
      obtain ⟨h1, h2⟩ := G.loc y h.2
      exact pg_name (by rw [G.hN]; exact G.nd) (by rw [G.hN]; exact h.1) h1 h2
    | _ => simp only [tgB] at h; cases h
  | .tup2 a b, x, h => by
    cases x with
    | Tuple es n p =>
      match es, h with
      | [x, y], h =>
        simp only [tgB, Bool.and_eq_true] at h
        obtain ⟨⟨⟨h1, h2⟩, p1⟩, p2⟩ := h
        have a2 : (assignEach [y] X.env).map (·.2) = assign y X.env :: (assignEach [] X.env).map (·.2) := by rw [plain_asg p2]; rfl
        have a1 : (assignEach [x, y] X.env).map (·.2) = assign x X.env :: (assignEach [y] X.env).map (·.2) := by rw [plain_asg p1]; rfl
        exact pg_or (pg_tup G.calm (pgs_cons (s_tg G h1) (pgs_cons (s_tg G h2) pgs_nil a2) a1) (by rw [plain_asg p1, plain_asg p2]; rfl) (by rw [plain_asg p1, plain_asg p2]; rfl))
          (pg_lst G.calm (pgs_cons (s_tg G h1) (pgs_cons (s_tg G h2) pgs_nil a2) a1) (by rw [plain_asg p1, plain_asg p2]; rfl) (by rw [plain_asg p1, plain_asg p2]; rfl))
      | [], h => simp only [tgB] at h; cases h
      | [_], h => simp only [tgB] at h; cases h
      | _ :: _ :: _ :: _, h => simp only [tgB] at h; cases h
    | _ => simp only [tgB] at h; cases h
  | .tup3 a b c, x, h => by
    cases x with
    | Tuple es n p =>
      match es, h with
      | [x, y, z], h =>
        simp only [tgB, Bool.and_eq_true] at h
        obtain ⟨⟨⟨⟨⟨h1, h2⟩, h3⟩, p1⟩, p2⟩, p3⟩ := h
        have a3 : (assignEach [z] X.env).map (·.2) = assign z X.env :: (assignEach [] X.env).map (·.2) := by rw [plain_asg p3]; rfl
        have a2 : (assignEach [y, z] X.env).map (·.2) = assign y X.env :: (assignEach [z] X.env).map (·.2) := by rw [plain_asg p2]; rfl
        have a1 : (assignEach [x, y, z] X.env).map (·.2) = assign x X.env :: (assignEach [y, z] X.env).map (·.2) := by rw [plain_asg p1]; rfl
        exact pg_tup G.calm (pgs_cons (s_tg G h1) (pgs_cons (s_tg G h2) (pgs_cons (s_tg G h3) pgs_nil a3) a2) a1) (by rw [plain_asg p1, plain_asg p2, plain_asg p3]; rfl) (by rw [plain_asg p1, plain_asg p2, plain_asg p3]; rfl)
      | [], h => simp only [tgB] at h; cases h
      | [_], h => simp only [tgB] at h; cases h
      | [_, _], h => simp only [tgB] at h; cases h
      | _ :: _ :: _ :: _ :: _, h => simp only [tgB] at h; cases h
    | _ => simp only [tgB] at h; cases h
  | .tup4 a b c d, x, h => by
    cases x with
    | Tuple es n p =>
      match es, h with
      | [x, y, z, w], h =>
        simp only [tgB, Bool.and_eq_true] at h
        obtain ⟨⟨⟨⟨⟨⟨⟨h1, h2⟩, h3⟩, h4⟩, p1⟩, p2⟩, p3⟩, p4⟩ := h
        have a4 : (assignEach [w] X.env).map (·.2) = assign w X.env :: (assignEach [] X.env).map (·.2) := by rw [plain_asg p4]; rfl
        have a3 : (assignEach [z, w] X.env).map (·.2) = assign z X.env :: (assignEach [w] X.env).map (·.2) := by rw [plain_asg p3]; rfl
        have a2 : (assignEach [y, z, w] X.env).map (·.2) = assign y X.env :: (assignEach [z, w] X.env).map (·.2) := by rw [plain_asg p2]; rfl
        have a1 : (assignEach [x, y, z, w] X.env).map (·.2) = assign x X.env :: (assignEach [y, z, w] X.env).map (·.2) := by rw [plain_asg p1]; rfl
        exact pg_tup G.calm (pgs_cons (s_tg G h1) (pgs_cons (s_tg G h2) (pgs_cons (s_tg G h3) (pgs_cons (s_tg G h4) pgs_nil a4) a3) a2) a1) (by rw [plain_asg p1, plain_asg p2, plain_asg p3, plain_asg p4]; rfl) (by rw [plain_asg p1, plain_asg p2, plain_asg p3, plain_asg p4]; rfl)
      | [], h => simp only [tgB] at h; cases h
      | [_], h => simp only [tgB] at h; cases h
      | [_, _], h => simp only [tgB] at h; cases h
      | [_, _, _], h => simp only [tgB] at h; cases h
      | _ :: _ :: _ :: _ :: _ :: _, h => simp only [tgB] at h; cases h
    | _ => simp only [tgB] at h; cases h
  | .tup5 a b c d e, x, h => by
    cases x with
    | Tuple es n p =>
      match es, h with
      | [x, y, z, w, u], h =>
        simp only [tgB, Bool.and_eq_true] at h
        obtain ⟨⟨⟨⟨⟨⟨⟨⟨⟨h1, h2⟩, h3⟩, h4⟩, h5⟩, p1⟩, p2⟩, p3⟩, p4⟩, p5⟩ := h
        have a5 : (assignEach [u] X.env).map (·.2) = assign u X.env :: (assignEach [] X.env).map (·.2) := by rw [plain_asg p5]; rfl
        have a4 : (assignEach [w, u] X.env).map (·.2) = assign w X.env :: (assignEach [u] X.env).map (·.2) := by rw [plain_asg p4]; rfl
        have a3 : (assignEach [z, w, u] X.env).map (·.2) = assign z X.env :: (assignEach [w, u] X.env).map (·.2) := by rw [plain_asg p3]; rfl
        have a2 : (assignEach [y, z, w, u] X.env).map (·.2) = assign y X.env :: (assignEach [z, w, u] X.env).map (·.2) := by rw [plain_asg p2]; rfl
        have a1 : (assignEach [x, y, z, w, u] X.env).map (·.2) = assign x X.env :: (assignEach [y, z, w, u] X.env).map (·.2) := by rw [plain_asg p1]; rfl
        exact pg_tup G.calm (pgs_cons (s_tg G h1) (pgs_cons (s_tg G h2) (pgs_cons (s_tg G h3) (pgs_cons (s_tg G h4) (pgs_cons (s_tg G h5) pgs_nil a5) a4) a3) a2) a1) (by rw [plain_asg p1, plain_asg p2, plain_asg p3, plain_asg p4, plain_asg p5]; rfl) (by rw [plain_asg p1, plain_asg p2, plain_asg p3, plain_asg p4, plain_asg p5]; rfl)
      | [], h => simp only [tgB] at h; cases h
      | [_], h => simp only [tgB] at h; cases h
      | [_, _], h => simp only [tgB] at h; cases h
      | [_, _, _], h => simp only [tgB] at h; cases h
      | [_, _, _, _], h => simp only [tgB] at h; cases h
      | _ :: _ :: _ :: _ :: _ :: _ :: _, h => simp only [tgB] at h; cases h
    | _ => simp only [tgB] at h; cases h
  | .tup6 a b c d e f, x, h => by
    cases x with
    | Tuple es n p =>
      match es, h with
      | [x, y, z, w, u, t], h =>
        simp only [tgB, Bool.and_eq_true] at h
        obtain ⟨⟨⟨⟨⟨⟨⟨⟨⟨⟨⟨h1, h2⟩, h3⟩, h4⟩, h5⟩, h6⟩, p1⟩, p2⟩, p3⟩, p4⟩, p5⟩, p6⟩ := h
        have a6 : (assignEach [t] X.env).map (·.2) = assign t X.env :: (assignEach [] X.env).map (·.2) := by rw [plain_asg p6]; rfl
        have a5 : (assignEach [u, t] X.env).map (·.2) = assign u X.env :: (assignEach [t] X.env).map (·.2) := by rw [plain_asg p5]; rfl
        have a4 : (assignEach [w, u, t] X.env).map (·.2) = assign w X.env :: (assignEach [u, t] X.env).map (·.2) := by rw [plain_asg p4]; rfl
        have a3 : (assignEach [z, w, u, t] X.env).map (·.2) = assign z X.env :: (assignEach [w, u, t] X.env).map (·.2) := by rw [plain_asg p3]; rfl
        have a2 : (assignEach [y, z, w, u, t] X.env).map (·.2) = assign y X.env :: (assignEach [z, w, u, t] X.env).map (·.2) := by rw [plain_asg p2]; rfl
        have a1 : (assignEach [x, y, z, w, u, t] X.env).map (·.2) = assign x X.env :: (assignEach [y, z, w, u, t] X.env).map (·.2) := by rw [plain_asg p1]; rfl
        exact pg_tup G.calm (pgs_cons (s_tg G h1) (pgs_cons (s_tg G h2) (pgs_cons (s_tg G h3) (pgs_cons (s_tg G h4) (pgs_cons (s_tg G h5) (pgs_cons (s_tg G h6) pgs_nil a6) a5) a4) a3) a2) a1) (by rw [plain_asg p1, plain_asg p2, plain_asg p3, plain_asg p4, plain_asg p5, plain_asg p6]; rfl) (by rw [plain_asg p1, plain_asg p2, plain_asg p3, plain_asg p4, plain_asg p5, plain_asg p6]; rfl)
      | [], h => simp only [tgB] at h; cases h
      | [_], h => simp only [tgB] at h; cases h
      | [_, _], h => simp only [tgB] at h; cases h
      | [_, _, _], h => simp only [tgB] at h; cases h
      | [_, _, _, _], h => simp only [tgB] at h; cases h
      | [_, _, _, _, _], h => simp only [tgB] at h; cases h
      | _ :: _ :: _ :: _ :: _ :: _ :: _ :: _, h => simp only [tgB] at h; cases h
    | _ => simp only [tgB] at h; cases h
end
section
variable {K : PySem.W.Frag} [Wd K] {B μ : List Addr} {H : Hp}
/-- a value laid into a target -/
theorem bind_ok : ∀ {t : Tg} {v : PV} {ρ ρ' : Slts} {x : V} {σ : L2.St} {Q : L2.St → Hp → Prop}, bindT t v ρ = .ok ρ' → Rep K B μ H v x → Slots K B μ H ρ σ →
    (∀ σ', Slots K B μ H ρ' σ' → (∀ own, tgIn own t = true → L2.wipe σ' own = L2.wipe σ own) → Q σ' H) → rdG K t x σ H Q
  | .name i, v, ρ, ρ', x, σ, Q, e, r, s, q => by
    simp only [bindT] at e
    cases e
    exact q _ (s.set r i) fun own h => wipe_set (by simpa [tgIn] using h)
  | .tup2 a b, v, ρ, ρ', x, σ, Q, e, r, s, q => by
    simp only [bindT] at e
    split at e
    · obtain ⟨ρ1, e1, e2⟩ := bnd_eq_ok e
      obtain ⟨p, vs, rfl, hs, t⟩ := Rep.tup_iff.mp r
      obtain ⟨x1, w, rfl, r1, t⟩ := t.cons_inv
      obtain ⟨x2, w, rfl, r2, t⟩ := t.cons_inv
      rw [t.nil_inv] at hs
      refine .inl ⟨p, _, rfl, hs.sq, rfl, x1, _, rfl, bind_ok e1 r1 s fun σ1 s1 w1 => ⟨x2, [], rfl, bind_ok e2 r2 s1 fun σ2 s2 w2 => ⟨rfl, q σ2 s2 fun own h => ?_⟩⟩⟩
      simp only [tgIn, Bool.and_eq_true] at h
      rw [w2 own h.2, w1 own h.1]
    · obtain ⟨ρ1, e1, e2⟩ := bnd_eq_ok e
      obtain ⟨p, vs, rfl, hs, t⟩ := Rep.lst_iff.mp r
      obtain ⟨x1, w, rfl, r1, t⟩ := t.cons_inv
      obtain ⟨x2, w, rfl, r2, t⟩ := t.cons_inv
      rw [t.nil_inv] at hs
      refine .inr ⟨p, _, rfl, hs.sq, rfl, x1, _, rfl, bind_ok e1 r1 s fun σ1 s1 w1 => ⟨x2, [], rfl, bind_ok e2 r2 s1 fun σ2 s2 w2 => ⟨rfl, q σ2 s2 fun own h => ?_⟩⟩⟩
      simp only [tgIn, Bool.and_eq_true] at h
      rw [w2 own h.2, w1 own h.1]
    · cases e
  | .tup3 a b c, v, ρ, ρ', x, σ, Q, e, r, s, q => by
    simp only [bindT] at e
    split at e
    · obtain ⟨ρ1, e1, e⟩ := bnd_eq_ok e
      obtain ⟨ρ2, e2, e3⟩ := bnd_eq_ok e
      obtain ⟨p, vs, rfl, hs, t⟩ := Rep.tup_iff.mp r
      obtain ⟨x1, w, rfl, r1, t⟩ := t.cons_inv
      obtain ⟨x2, w, rfl, r2, t⟩ := t.cons_inv
      obtain ⟨x3, w, rfl, r3, t⟩ := t.cons_inv
      rw [t.nil_inv] at hs
      refine ⟨p, _, rfl, hs.sq, rfl, x1, _, rfl, bind_ok e1 r1 s fun σ1 s1 w1 => ⟨x2, _, rfl, bind_ok e2 r2 s1 fun σ2 s2 w2 => ⟨x3, [], rfl, bind_ok e3 r3 s2 fun σ3 s3 w3 => ⟨rfl, q σ3 s3 fun own h => ?_⟩⟩⟩⟩
      simp only [tgIn, Bool.and_eq_true] at h
      rw [w3 own h.2, w2 own h.1.2, w1 own h.1.1]
    · cases e
  | .tup4 a b c d, v, ρ, ρ', x, σ, Q, e, r, s, q => by
    simp only [bindT] at e
    split at e
    · obtain ⟨ρ1, e1, e⟩ := bnd_eq_ok e
      obtain ⟨ρ2, e2, e⟩ := bnd_eq_ok e
      obtain ⟨ρ3, e3, e4⟩ := bnd_eq_ok e
      obtain ⟨p, vs, rfl, hs, t⟩ := Rep.tup_iff.mp r
      obtain ⟨x1, w, rfl, r1, t⟩ := t.cons_inv
      obtain ⟨x2, w, rfl, r2, t⟩ := t.cons_inv
      obtain ⟨x3, w, rfl, r3, t⟩ := t.cons_inv
      obtain ⟨x4, w, rfl, r4, t⟩ := t.cons_inv
      rw [t.nil_inv] at hs
      refine ⟨p, _, rfl, hs.sq, rfl, x1, _, rfl, bind_ok e1 r1 s fun σ1 s1 w1 => ⟨x2, _, rfl, bind_ok e2 r2 s1 fun σ2 s2 w2 => ⟨x3, _, rfl, bind_ok e3 r3 s2 fun σ3 s3 w3 => ⟨x4, [], rfl, bind_ok e4 r4 s3 fun σ4 s4 w4 => ⟨rfl, q σ4 s4 fun own h => ?_⟩⟩⟩⟩⟩
      simp only [tgIn, Bool.and_eq_true] at h
      rw [w4 own h.2, w3 own h.1.2, w2 own h.1.1.2, w1 own h.1.1.1]
    · cases e
  | .tup5 a b c d f, v, ρ, ρ', x, σ, Q, e, r, s, q => by
    simp only [bindT] at e
    split at e
    · obtain ⟨ρ1, e1, e⟩ := bnd_eq_ok e
      obtain ⟨ρ2, e2, e⟩ := bnd_eq_ok e
      obtain ⟨ρ3, e3, e⟩ := bnd_eq_ok e
      obtain ⟨ρ4, e4, e5⟩ := bnd_eq_ok e
      obtain ⟨p, vs, rfl, hs, t⟩ := Rep.tup_iff.mp r
      obtain ⟨x1, w, rfl, r1, t⟩ := t.cons_inv
      obtain ⟨x2, w, rfl, r2, t⟩ := t.cons_inv
      obtain ⟨x3, w, rfl, r3, t⟩ := t.cons_inv
      obtain ⟨x4, w, rfl, r4, t⟩ := t.cons_inv
      obtain ⟨x5, w, rfl, r5, t⟩ := t.cons_inv
      rw [t.nil_inv] at hs
      refine ⟨p, _, rfl, hs.sq, rfl, x1, _, rfl, bind_ok e1 r1 s fun σ1 s1 w1 => ⟨x2, _, rfl, bind_ok e2 r2 s1 fun σ2 s2 w2 => ⟨x3, _, rfl, bind_ok e3 r3 s2 fun σ3 s3 w3 => ⟨x4, _, rfl, bind_ok e4 r4 s3 fun σ4 s4 w4 => ⟨x5, [], rfl, bind_ok e5 r5 s4 fun σ5 s5 w5 => ⟨rfl, q σ5 s5 fun own h => ?_⟩⟩⟩⟩⟩⟩
      simp only [tgIn, Bool.and_eq_true] at h
      rw [w5 own h.2, w4 own h.1.2, w3 own h.1.1.2, w2 own h.1.1.1.2, w1 own h.1.1.1.1]
    · cases e
  | .tup6 a b c d f g, v, ρ, ρ', x, σ, Q, e, r, s, q => by
    simp only [bindT] at e
    split at e
    · obtain ⟨ρ1, e1, e⟩ := bnd_eq_ok e
      obtain ⟨ρ2, e2, e⟩ := bnd_eq_ok e
      obtain ⟨ρ3, e3, e⟩ := bnd_eq_ok e
      obtain ⟨ρ4, e4, e⟩ := bnd_eq_ok e
      obtain ⟨ρ5, e5, e6⟩ := bnd_eq_ok e
      obtain ⟨p, vs, rfl, hs, t⟩ := Rep.tup_iff.mp r
      obtain ⟨x1, w, rfl, r1, t⟩ := t.cons_inv
      obtain ⟨x2, w, rfl, r2, t⟩ := t.cons_inv
      obtain ⟨x3, w, rfl, r3, t⟩ := t.cons_inv
      obtain ⟨x4, w, rfl, r4, t⟩ := t.cons_inv
      obtain ⟨x5, w, rfl, r5, t⟩ := t.cons_inv
      obtain ⟨x6, w, rfl, r6, t⟩ := t.cons_inv
      rw [t.nil_inv] at hs
      refine ⟨p, _, rfl, hs.sq, rfl, x1, _, rfl, bind_ok e1 r1 s fun σ1 s1 w1 => ⟨x2, _, rfl, bind_ok e2 r2 s1 fun σ2 s2 w2 => ⟨x3, _, rfl, bind_ok e3 r3 s2 fun σ3 s3 w3 => ⟨x4, _, rfl, bind_ok e4 r4 s3 fun σ4 s4 w4 => ⟨x5, _, rfl, bind_ok e5 r5 s4 fun σ5 s5 w5 => ⟨x6, [], rfl, bind_ok e6 r6 s5 fun σ6 s6 w6 => ⟨rfl, q σ6 s6 fun own h => ?_⟩⟩⟩⟩⟩⟩⟩
      simp only [tgIn, Bool.and_eq_true] at h
      rw [w6 own h.2, w5 own h.1.2, w4 own h.1.1.2, w3 own h.1.1.1.2, w2 own h.1.1.1.1.2, w1 own h.1.1.1.1.1]
    · cases e
end
end Rg

namespace Rg
open PySem PySem.Spec PyProof.Rows L2
section
variable {K : PySem.W.Frag} [Wd K] {B B' μ μ' : List Addr} {H H' : Hp}
mutual
/-- another ban -/
theorem Rep.ban (hB : ∀ a, a ∈ B' → a ∈ B ∨ H a = none) : ∀ {p : PV} {v : V}, Rep K B μ H p v → Rep K B' μ H p v
  | .non, _, h => by simpa only [Rep] using h
  | .bl _, _, h => by simpa only [Rep] using h
  | .int _, _, h => by simpa only [Rep] using h
  | .str _, _, h => by simpa only [Rep] using h
  | .tup l, _, h => by
    obtain ⟨a, vs, e, hs, hr⟩ := Rep.tup_iff.mp h
    exact Rep.tup_iff.mpr ⟨a, vs, e, hs, Reps.ban hB hr⟩
  | .lst l, _, h => by
    obtain ⟨a, vs, e, hs, hr⟩ := Rep.lst_iff.mp h
    rcases hs with ⟨h1, h2, h3⟩ | hs
    case inr => exact Rep.lst_iff.mpr ⟨a, vs, e, .inr hs, Reps.ban hB hr⟩
    refine Rep.lst_iff.mpr ⟨a, vs, e, .inl ⟨h1, fun z => ?_, h3⟩, Reps.ban hB hr⟩
    rcases hB a z with q | q
    · exact h2 q
    · rcases h1 with h1 | ⟨o, h1⟩ <;> (rw [q] at h1; cases h1)
  | .ref m, _, h => by simpa only [Rep] using h
theorem Reps.ban (hB : ∀ a, a ∈ B' → a ∈ B ∨ H a = none) : ∀ {ps : List PV} {vs : List V}, Reps K B μ H ps vs → Reps K B' μ H ps vs
  | [], _, h => by rw [h.nil_inv]; exact .nil
  | p :: ps, _, h => by
    obtain ⟨v, r, rfl, h1, t⟩ := h.cons_inv
    exact .cons (Rep.ban hB h1) (Reps.ban hB t)
end
mutual
/-- a banned list changed -/
theorem Rep.updBan {D : Addr} {w : List V} {o : HO} (hD : D ∈ B) (hH : H D = some (.lst w)) : ∀ {p : PV} {v : V}, Rep K B μ H p v → Rep K B μ (upd H D o) p v
  | .non, _, h => by simpa only [Rep] using h
  | .bl _, _, h => by simpa only [Rep] using h
  | .int _, _, h => by simpa only [Rep] using h
  | .str _, _, h => by simpa only [Rep] using h
  | .tup l, _, h => by
    obtain ⟨a, vs, e, hs, hr⟩ := Rep.tup_iff.mp h
    refine Rep.tup_iff.mpr ⟨a, vs, e, ?_, Reps.updBan hD hH hr⟩
    rcases hs with ⟨h1, h2⟩ | h1
    · refine .inl ⟨?_, h2⟩
      rcases h1 with h1 | ⟨ob, h1⟩
      · exact .inl (by rw [upd_ne (fun e => by rw [e, hH] at h1; cases h1)]; exact h1)
      · exact .inr ⟨ob, by rw [upd_ne (fun e => by rw [e, hH] at h1; cases h1)]; exact h1⟩
    · exact .inr h1
  | .lst l, _, h => by
    obtain ⟨a, vs, e, hs, hr⟩ := Rep.lst_iff.mp h
    rcases hs with ⟨h1, h2, h3⟩ | hs
    case inr => exact Rep.lst_iff.mpr ⟨a, vs, e, .inr hs, Reps.updBan hD hH hr⟩
    have ne : a ≠ D := fun e => h2 (e ▸ hD)
    refine Rep.lst_iff.mpr ⟨a, vs, e, .inl ⟨?_, h2, h3⟩, Reps.updBan hD hH hr⟩
    rcases h1 with h1 | ⟨ob, h1⟩
    · exact .inl (by rw [upd_ne ne]; exact h1)
    · exact .inr ⟨ob, by rw [upd_ne ne]; exact h1⟩
  | .ref m, _, h => by simpa only [Rep] using h
theorem Reps.updBan {D : Addr} {w : List V} {o : HO} (hD : D ∈ B) (hH : H D = some (.lst w)) : ∀ {ps : List PV} {vs : List V}, Reps K B μ H ps vs → Reps K B μ (upd H D o) ps vs
  | [], _, h => by rw [h.nil_inv]; exact .nil
  | p :: ps, _, h => by
    obtain ⟨v, r, rfl, h1, t⟩ := h.cons_inv
    exact .cons (Rep.updBan hD hH h1) (Reps.updBan hD hH t)
end
mutual
/-- the banned list made a cell -/
theorem Rep.toCell {D : Addr} {w : List V} (hH : H D = some (.lst w)) : ∀ {p : PV} {v : V}, Rep K (D :: B) μ H p v → Rep K B (μ ++ [D]) H p v
  | .non, _, h => by simpa only [Rep] using h
  | .bl _, _, h => by simpa only [Rep] using h
  | .int _, _, h => by simpa only [Rep] using h
  | .str _, _, h => by simpa only [Rep] using h
  | .tup l, _, h => by
    obtain ⟨a, vs, e, hs, hr⟩ := Rep.tup_iff.mp h
    refine Rep.tup_iff.mpr ⟨a, vs, e, ?_, Reps.toCell hH hr⟩
    rcases hs with ⟨h1, h2⟩ | h1
    · refine .inl ⟨h1, fun z => ?_⟩
      rcases List.mem_append.mp z with z | z
      · exact h2 z
      · rw [List.mem_singleton] at z
        subst z
        rcases h1 with h1 | ⟨ob, h1⟩ <;> (rw [hH] at h1; cases h1)
    · exact .inr h1
  | .lst l, _, h => by
    obtain ⟨a, vs, e, hs, hr⟩ := Rep.lst_iff.mp h
    rcases hs with ⟨h1, h2, h3⟩ | hs
    case inr => exact Rep.lst_iff.mpr ⟨a, vs, e, .inr hs, Reps.toCell hH hr⟩
    refine Rep.lst_iff.mpr ⟨a, vs, e, .inl ⟨h1, fun z => h2 (List.mem_cons_of_mem _ z), fun z => ?_⟩, Reps.toCell hH hr⟩
    rcases List.mem_append.mp z with z | z
    · exact h3 z
    · rw [List.mem_singleton] at z
      exact h2 (z ▸ List.mem_cons_self)
  | .ref m, _, h => by
    obtain ⟨a, e, hm⟩ := Rep.ref_iff.mp h
    exact Rep.ref_iff.mpr ⟨a, e, by rw [List.getElem?_append_left (List.getElem?_eq_some_iff.mp hm).1]; exact hm⟩
theorem Reps.toCell {D : Addr} {w : List V} (hH : H D = some (.lst w)) : ∀ {ps : List PV} {vs : List V}, Reps K (D :: B) μ H ps vs → Reps K B (μ ++ [D]) H ps vs
  | [], _, h => by rw [h.nil_inv]; exact .nil
  | p :: ps, _, h => by
    obtain ⟨v, r, rfl, h1, t⟩ := h.cons_inv
    exact .cons (Rep.toCell hH h1) (Reps.toCell hH t)
end
end

theorem frzN {X : Cx} {pins : List (Addr × Obj)} {σ : L2.St} {H : Hp} {s : Shared} {d : Addr} {o : Obj} {xs : List (NestedKey × Addr × Value)} (I : Inv X pins σ H s) (h : H d = some (.frz o (.ext (RawN X.K d xs)))) :
    s.heap.get? d = some o ∧ o.ExactDict ∧ ∃ (es : Array DictEntry) (ep : Nat), o.data = .dict es ep ∧ es.size = xs.length ∧ ∀ (i : Nat) x, xs[i]? = some x → ∃ en : DictEntry, es[i]? = some en ∧ en.key = .ref x.2.1 := by
  obtain ⟨hd, q, _⟩ := (show ObjOk X.prog X.w H s.heap d (.frz o (.ext (RawN X.K d xs))) from I.hok d _ h)
  obtain ⟨o', es, ep, ho, hx, hdt, he⟩ := q
  rw [hd] at ho
  cases ho
  refine ⟨hd, hx, es, ep, hdt, ?_, fun i x e => ?_⟩
  · have := congrArg List.length he
    simpa using this
  · have := congrArg (fun z => z[i]?) he
    simp only [List.getElem?_map, e, Option.map_some, Array.getElem?_toList] at this
    exact ⟨_, this, rfl⟩
def ItkN (K : PySem.W.Frag) [Wd K] (d : Addr) (o : Obj) (xs : List (NestedKey × Addr × Value)) : L2.It :=
  ⟨fun i H => H d = some (.frz o (.ext (RawN K d xs))) ∧ i < xs.length, fun i H x H' => H' = H ∧ ∃ y, xs[i]? = some y ∧ x = .ref y.2.1, fun i H => H d = some (.frz o (.ext (RawN K d xs))) ∧ xs.length ≤ i⟩
theorem turn_keysN {X0 : Cx} {tg : Expr} {d : Addr} {o : Obj} {es : Array DictEntry} {ep : Nat} {xs : List (NestedKey × Addr × Value)} (it : Addr) (hod : o.data = .dict es ep) : Turn X0.prog X0.w X0.K tg (ItkN X0.K d o xs) [it] it (fun i h => h.IsKeyIter it d i xs.length ep) where
  mem := by simp
  obj := fun i h st b hb => by
    have e : b = it := by simpa using hb
    subst e
    obtain ⟨oi, e, c, dd⟩ := st
    exact ⟨oi, e, fun v z => by rw [dd] at z; cases z⟩
  keep := fun i h h' st k => st.at fun oi e => k it (by simp) oi e
  item := by
    intro X hP hw hK hc i pins s σ H E I hf st hg
    obtain ⟨hd, hi⟩ := hg
    have hd2 : H d = some (.frz o (.ext (RawN X.K d xs))) := by
      rw [hd]
      have : ∀ (K K' : PySem.W.Frag) (w w' : World), K' = K → w' = w → @RawN K ⟨w⟩ d xs = @RawN K' ⟨w'⟩ d xs := by
        rintro _ _ _ _ rfl rfl; rfl
      exact congrArg (fun z => some (HO.frz o (.ext z))) (this X0.K X.K X0.w X.w hK hw)
    rw [← hP, ← hw]
    obtain ⟨f0, f1, f2, f3, f4, f5⟩ := hf it (by simp)
    obtain ⟨hgd, hx, es', ep', hdt, hsz, ent⟩ := frzN I hd2
    obtain ⟨rfl, rfl⟩ := dict_ep hod hdt
    obtain ⟨y, hy⟩ : ∃ y, xs[i]? = some y := ⟨xs[i], List.getElem?_eq_getElem hi⟩
    obtain ⟨en, hen, hkey⟩ := ent i y hy
    refine next_key_item st hgd hdt hsz hen fun h' st' sb => ?_
    have I1 : Inv X pins σ H { s with heap := h' } := I.turned (t' := s.toks) (fun b ob hb e => (sb.2 b hb).trans e) f0 f1 f3 f4 f5
    obtain ⟨oi, e, c, dd⟩ := id st'
    exact ⟨en.key, rfl, go_of (s := { s with heap := h' }) e c dd (by decide) ⟨.ref y.2.1, H, I1, hkey, ⟨rfl, y, hy, rfl⟩, st', fun b hb => (hf b hb).1⟩⟩
  done := by
    intro X hP hw hK hc i pins s σ H E I hf st hg
    obtain ⟨hd, hi⟩ := hg
    have hd2 : H d = some (.frz o (.ext (RawN X.K d xs))) := by
      rw [hd]
      have : ∀ (K K' : PySem.W.Frag) (w w' : World), K' = K → w' = w → @RawN K ⟨w⟩ d xs = @RawN K' ⟨w'⟩ d xs := by
        rintro _ _ _ _ rfl rfl; rfl
      exact congrArg (fun z => some (HO.frz o (.ext z))) (this X0.K X.K X0.w X.w hK hw)
    rw [← hP, ← hw]
    obtain ⟨f0, f1, f2, f3, f4, f5⟩ := hf it (by simp)
    obtain ⟨hgd, hx, es', ep', hdt, hsz, ent⟩ := frzN I hd2
    obtain ⟨rfl, rfl⟩ := dict_ep hod hdt
    exact next_key_end (I.ok.hd hc) st hgd hdt hsz hi fun h' eb => ⟨rfl, I.turned (t' := s.toks) (fun b ob hb e => eb b ob hb e) f0 f1 f3 f4 f5⟩
  self := fun A i s Q E st h => by
    refine wpAny_pyIter_slot st.typeIs F.slot_dict_keyiterator_iter (wpAny_call_entry F.slot_dict_keyiterator_iter st.typeIs F.entry_dict_keyiterator_iter ?_ (F.args_dict_keyiterator_iter_1 _))
    show wpAny _ _ (ret (.ref it)) _ _ s
    exact wpAny_pure ⟨_, rfl, "dict_keyiterator", _, st.typeIs, F.slot_dict_keyiterator_next.lookup, h⟩
def iKeysN (X : Cx) (td : TE) : TI := fun σ H R => td σ H fun x H1 => ∃ d o xs, x = .ref d ∧ (d == sysModules) = false ∧ H1 d = some (.frz o (.ext (RawN X.K d xs))) ∧ R (ItkN X.K d o xs) H1
theorem pi_keysN {X : Cx} {tg e : Expr} {td : TE} (he : PE X e td) : PI X tg e (iKeysN X td) := by
  refine ⟨fun pins s σ H R I h => ?_⟩
  refine thn (he.run pins s σ H _ I h) fun u s1 ⟨x, H1, I1, rx, d, o, xs, ex, hs, hd, q⟩ => ?_
  subst ex
  obtain rfl : u = Value.ref d := rx
  obtain ⟨hgd, hx, es, ep, hdt, hsz, ent⟩ := frzN I1 hd
  refine iter_keys hs hgd hx hdt (pi_one (tk := s1.toks) I1 _ (turn_keysN (X0 := X) _ hdt) ⟨_, Heap.get?_push_size _ rfl, rfl, ?_⟩ q)
  rw [hsz] <;> rfl
mutual
theorem same_eq : ∀ {a b : PV}, same a b = true → a = b
  | .non, b, h => by cases b <;> first | rfl | (simp [same] at h)
  | .bl _, b, h => by cases b <;> first | (simp only [same, beq_iff_eq] at h; rw [h]) | (simp [same] at h)
  | .int _, b, h => by cases b <;> first | (simp only [same, beq_iff_eq] at h; rw [h]) | (simp [same] at h)
  | .str _, b, h => by cases b <;> first | (simp only [same, decide_eq_true_eq] at h; rw [h]) | (simp [same] at h)
  | .tup _, b, h => by cases b <;> first | (simp only [same] at h; rw [sames_eq h]) | (simp [same] at h)
  | .lst _, b, h => by cases b <;> first | (simp only [same] at h; rw [sames_eq h]) | (simp [same] at h)
  | .ref _, b, h => by cases b <;> first | (simp only [same, beq_iff_eq] at h; rw [h]) | (simp [same] at h)
theorem sames_eq : ∀ {a b : List PV}, sames a b = true → a = b
  | [], b, h => by cases b <;> first | rfl | (simp [sames] at h)
  | x :: r, b, h => by
    cases b with
    | nil => simp [sames] at h
    | cons y s =>
      simp only [sames, Bool.and_eq_true] at h
      rw [same_eq h.1, sames_eq h.2]
end
theorem lkOk_app : ∀ {a b : Lk} {h : MH}, lkOk (a ++ b) h = true → lkOk a h = true ∧ lkOk b h = true
  | [], b, h, e => ⟨rfl, e⟩
  | (n, l) :: a, b, h, e => by
    simp only [List.cons_append, lkOk, Bool.and_eq_true] at e ⊢
    obtain ⟨e1, e2⟩ := lkOk_app e.2
    exact ⟨⟨e.1, e1⟩, e2⟩
/-- J walks the items, from (μ0, H0) on -/
def ItOk (K : PySem.W.Frag) [Wd K] (B : List Addr) (J : L2.It) (items : List PV) (lk : Lk) (μ0 : List Addr) (H0 : Hp) : Prop :=
  ∀ (i : Nat) (μ : List Addr) (H : Hp) (B' : List Addr) (h : MH), Step μ0 H0 μ H → (∀ a, a ∈ B' → a ∈ B ∨ H0 a = none) → Rel K B' μ h H → lkOk lk h = true →
    (∀ p, items[i]? = some p → J.go i H ∧ ∀ x H', J.yld i H x H' → Step μ H μ H' ∧ Rel K B' μ h H' ∧ Rep K B' μ H' p x) ∧
    (items.length ≤ i → J.stop i H)
/-- a list that stays -/
def Src (K : PySem.W.Frag) [Wd K] (B : List Addr) (a : Addr) (l : List PV) (lk : Lk) (μ0 : List Addr) (H0 : Hp) : Prop :=
  ∀ (μ : List Addr) (H : Hp) (B' : List Addr) (h : MH), Step μ0 H0 μ H → (∀ a, a ∈ B' → a ∈ B ∨ H0 a = none) → Rel K B' μ h H → lkOk lk h = true → ∃ vs, SqL K H a vs ∧ Reps K B' μ H l vs
section
variable {K : PySem.W.Frag} [Wd K] {B μ : List Addr} {h : MH} {H : Hp}
theorem src_froz {a : Addr} {l : List PV} {vs : List V} (hs : SxL K B μ H a vs) (t : Reps K B μ H l vs) : Src K B a l [] μ H := fun μ1 H1 B' h' st hB rl _ => ⟨vs, (hs.step st).sq, (t.ban hB).step st⟩
theorem src_cell {a : Addr} {n : Nat} {l : List PV} (ha : μ[n]? = some a) : Src K B a l [(n, l)] μ H := fun μ1 H1 B' h' st hB rl e => by
  simp only [lkOk, Bool.and_true] at e
  split at e
  · rename_i m em
    have := sames_eq e
    subst this
    obtain ⟨a', vs, ha', hH, t⟩ := rl.lst em
    rw [st.get ha] at ha'
    cases ha'
    exact ⟨vs, .inl (.inl hH), t⟩
  · cases e
theorem src_view {v : PV} {x : V} {w : List PV × Lk} (rl : Rel K B μ h H) (r : Rep K B μ H v x) (e : wview v h = some w) : ∃ a, x = .ref a ∧ (∃ vs, SqL K H a vs) ∧ Src K B a w.1 w.2 μ H := by
  unfold wview at e
  split at e
  · cases e
    obtain ⟨a, vs, rfl, hs, t⟩ := Rep.lst_iff.mp r
    exact ⟨a, rfl, ⟨vs, hs.sq⟩, src_froz hs t⟩
  · split at e
    · rename_i n l em
      cases e
      obtain ⟨a, rfl, ha⟩ := Rep.ref_iff.mp r
      obtain ⟨a', vs, ha', hH, t⟩ := rl.lst em
      rw [ha] at ha'
      cases ha'
      exact ⟨a, rfl, ⟨vs, .inl (.inl hH)⟩, src_cell ha⟩
    · cases e
  · cases e
theorem it_list {a : Addr} {l : List PV} {lk : Lk} (hs : Src K B a l lk μ H) : ItOk K B (Itl K a) l lk μ H := fun i μ1 H1 B' h' st hB rl lo => by
  obtain ⟨vs, hs1, t⟩ := hs μ1 H1 B' h' st hB rl lo
  refine ⟨fun p e => ?_, fun hl => ⟨vs, hs1, by rw [← t.length]; exact hl⟩⟩
  obtain ⟨v, ev, rv⟩ := t.get e
  refine ⟨⟨vs, v, hs1, ev⟩, fun x H' y => ?_⟩
  obtain ⟨e1, y⟩ := y
  subst e1
  have ex := y vs hs1
  rw [ev] at ex; cases ex
  exact ⟨.refl, rl, rv⟩
theorem it_tup {a : Addr} {l : List PV} {vs : List V} (hs : SxT K μ H a vs) (t : Reps K B μ H l vs) : ItOk K B (Itt K a) l [] μ H := fun i μ1 H1 B' h' st hB rl _ => by
  have hs1 := (hs.step st).sq
  refine ⟨fun p e => ?_, fun hl => ⟨vs, hs1, by rw [← t.length]; exact hl⟩⟩
  obtain ⟨v, ev, rv⟩ := t.get e
  refine ⟨⟨vs, v, hs1, ev⟩, fun x H' y => ?_⟩
  obtain ⟨e1, y⟩ := y
  subst e1
  have ex := y vs hs1
  rw [ev] at ex; cases ex
  exact ⟨.refl, rl, (rv.ban hB).step st⟩
theorem it_str {s : Str} (hk : PyData.strOk s = true) : ItOk K B (Its s) (s.cps.toList.map fun c => .str ⟨#[c]⟩) [] μ H := fun i μ1 H1 B' h' st hB rl _ => by
  refine ⟨fun p e => ?_, fun hl => ?_⟩
  · rw [List.getElem?_map] at e
    cases ec : s.cps.toList[i]? with
    | none => rw [ec] at e; cases e
    | some c =>
      rw [ec] at e
      cases e
      have hlt : i < s.cps.size := by
        have := (List.getElem?_eq_some_iff.mp ec).1
        simpa using this
      refine ⟨hlt, fun x H' y => ?_⟩
      obtain ⟨e1, c', ec', rfl⟩ := y
      subst e1
      have : c' = c := by
        rw [Array.getElem?_toList] at ec
        rw [ec] at ec'
        exact (Option.some.inj ec').symm
      subst this
      exact ⟨.refl, rl, Rep.str_iff.mpr ⟨rfl, by show 1 ≤ big; decide, strOk_one hk (List.mem_of_getElem? ec)⟩⟩
  · have : (s.cps.toList.map fun c => PV.str ⟨#[c]⟩).length = s.cps.size := by simp
    rw [this] at hl
    exact hl
/-- a locked dict's keys -/
theorem it_keys {a : Addr} {o : Obj} {kvs : List (L2.Key × V)} {l : List (L2.Key × PV)} (hH : H a = some (.frz o (.dK kvs))) (e : kvs.map (·.1) = l.map (·.1)) (g : KeysGood (l.map (·.1))) : ItOk K B (Itk a o kvs) (l.map fun p => keyV p.1) [] μ H := fun i μ1 H1 B' h' st hB rl _ => by
  have h1 : H1 a = some (.frz o (.dK kvs)) := st.fz _ _ _ hH
  have hl : kvs.length = l.length := dct_len e
  refine ⟨fun p ep => ?_, fun hi => ⟨h1, by rw [List.length_map] at hi; omega⟩⟩
  rw [List.getElem?_map] at ep
  obtain ⟨q, eq, rfl⟩ := Option.map_eq_some_iff.mp ep
  have il := (List.getElem?_eq_some_iff.mp eq).1
  refine ⟨⟨h1, by omega⟩, fun x H' y => ?_⟩
  obtain ⟨rfl, k, v, ek, rfl⟩ := y
  have ee : some k = some q.1 := by
    have := congrArg (fun z => z[i]?) e
    simp only [List.getElem?_map, ek, eq, Option.map_some] at this
    exact this
  cases ee
  have r := (reps_keyV (K := K) (B := B') (μ := μ1) (H := H') g).get (i := i) (p := keyV q.1) (by rw [List.getElem?_map, List.getElem?_map, eq]; rfl)
  obtain ⟨v', ev, rv⟩ := r
  rw [List.getElem?_map, List.getElem?_map, eq] at ev
  cases ev
  exact ⟨.refl, rl, rv⟩
theorem it_keysN {a : Addr} {o : Obj} {xs : List (NestedKey × Addr × Value)} {l : List (NestedKey × PV)} (hH : H a = some (.frz o (.ext (RawN K a xs)))) (e : xs.map (·.1) = l.map (·.1)) (g : ∀ x ∈ xs, Rep K B μ H (nkV x.1) (.ref x.2.1)) : ItOk K B (ItkN K a o xs) (l.map fun p => nkV p.1) [] μ H := fun i μ1 H1 B' h' st hB rl _ => by
  have h1 : H1 a = some (.frz o (.ext (RawN K a xs))) := st.fz _ _ _ hH
  have hl : xs.length = l.length := by simpa using congrArg List.length e
  refine ⟨fun p ep => ?_, fun hi => ⟨h1, by rw [List.length_map] at hi; omega⟩⟩
  rw [List.getElem?_map] at ep
  obtain ⟨q, eq, rfl⟩ := Option.map_eq_some_iff.mp ep
  have il := (List.getElem?_eq_some_iff.mp eq).1
  refine ⟨⟨h1, by omega⟩, fun x H' y => ?_⟩
  obtain ⟨e1, y, ek, rfl⟩ := y
  subst e1
  have ee : some y.1 = some q.1 := by
    have := congrArg (fun z => z[i]?) e
    simp only [List.getElem?_map, ek, eq, Option.map_some] at this
    exact this
  have ee := Option.some.inj ee
  rw [← ee]
  exact ⟨.refl, rl, ((g y (List.mem_of_getElem? ek)).ban hB).step st⟩
theorem rngP_len : ∀ (n : Nat) (lo : Int), (rngP n lo).length = n
  | 0, _ => rfl
  | n + 1, lo => by simp only [rngP, List.length_cons, rngP_len n]
theorem rngP_get : ∀ (n : Nat) (lo : Int) (i : Nat) (p : PV), (rngP n lo)[i]? = some p → i < n ∧ p = .int (lo + i)
  | 0, _, i, p, e => by simp [rngP] at e
  | n + 1, lo, 0, p, e => by
    simp only [rngP, List.getElem?_cons_zero, Option.some.injEq] at e
    exact ⟨Nat.succ_pos _, by rw [← e]; simp⟩
  | n + 1, lo, i + 1, p, e => by
    simp only [rngP, List.getElem?_cons_succ] at e
    obtain ⟨h1, h2⟩ := rngP_get n (lo + 1) i p e
    refine ⟨Nat.succ_lt_succ h1, ?_⟩
    rw [h2]
    congr 1
    omega
theorem it_rng {lo : Int} {n : Nat} : ItOk K B (Itr lo n) (rngP n lo) [] μ H := fun i μ1 H1 B' h' st hB rl _ => by
  refine ⟨fun p e => ?_, fun hl => by rw [rngP_len] at hl; exact hl⟩
  obtain ⟨h1, h2⟩ := rngP_get n lo i p e
  refine ⟨h1, fun x H' y => ?_⟩
  obtain ⟨e1, e2⟩ := y
  subst e1 e2 h2
  exact ⟨.refl, rl, .int⟩
theorem enumP_len : ∀ (l : List PV) (k : Nat), (enumP k l).length = l.length
  | [], _ => rfl
  | x :: xs, k => by simp only [enumP, List.length_cons, enumP_len xs]
theorem enumP_get : ∀ (l : List PV) (k i : Nat) (p : PV), (enumP k l)[i]? = some p → ∃ q, l[i]? = some q ∧ p = .tup [.int ((k + i : Nat) : Int), q]
  | [], _, i, p, e => by simp [enumP] at e
  | x :: xs, k, 0, p, e => by
    simp only [enumP, List.getElem?_cons_zero, Option.some.injEq] at e
    exact ⟨x, rfl, by rw [← e]; simp⟩
  | x :: xs, k, i + 1, p, e => by
    simp only [enumP, List.getElem?_cons_succ] at e
    obtain ⟨q, h1, h2⟩ := enumP_get xs (k + 1) i p e
    exact ⟨q, by simpa using h1, by rw [h2]; congr 4; omega⟩
theorem it_enum {a : Addr} {l : List PV} {lk : Lk} (hs : Src K B a l lk μ H) : ItOk K B (Ite K a) (enumP 0 l) lk μ H := fun i μ1 H1 B' h' st hB rl lo => by
  obtain ⟨vs, hs1, t⟩ := hs μ1 H1 B' h' st hB rl lo
  refine ⟨fun p e => ?_, fun hl => ⟨vs, hs1, by rw [← t.length]; rw [enumP_len] at hl; exact hl⟩⟩
  obtain ⟨q, e1, rfl⟩ := enumP_get l 0 i p e
  obtain ⟨v, ev, rv⟩ := t.get e1
  refine ⟨⟨vs, v, hs1, ev⟩, fun x H' y => ?_⟩
  obtain ⟨T, z, rfl, hT, rfl, hz⟩ := y
  have ex := hz vs hs1
  rw [ev] at ex; cases ex
  refine ⟨.new hT, rl.new hT, .newTup rl hT (.cons ?_ (.cons rv .nil))⟩
  rw [Nat.zero_add]
  exact .int
theorem it_enumT {a : Addr} {l : List PV} {vs : List V} (hs : SxT K μ H a vs) (t : Reps K B μ H l vs) : ItOk K B (IteT K a vs.length) (enumP 0 l) [] μ H := fun i μ1 H1 B' h' st hB rl _ => by
  have hs1 := (hs.step st).sq
  refine ⟨fun p e => ?_, fun hl => ⟨vs, hs1, rfl, by rw [← t.length]; rw [enumP_len] at hl; exact hl⟩⟩
  obtain ⟨q, e1, rfl⟩ := enumP_get l 0 i p e
  obtain ⟨v, ev, rv⟩ := t.get e1
  refine ⟨⟨vs, v, hs1, rfl, ev⟩, fun x H' y => ?_⟩
  obtain ⟨T, z, rfl, hT, rfl, hz⟩ := y
  have ex := hz vs hs1
  rw [ev] at ex; cases ex
  refine ⟨.new hT, rl.new hT, .newTup rl hT (.cons ?_ (.cons ((rv.ban hB).step st) .nil))⟩
  rw [Nat.zero_add]
  exact .int
theorem zipP_len : ∀ (l m : List PV), (zipP l m).length = min l.length m.length
  | [], m => by simp [zipP]
  | x :: xs, [] => by simp [zipP]
  | x :: xs, y :: ys => by simp only [zipP, List.length_cons, zipP_len xs ys]; omega
theorem zipP_get : ∀ (l m : List PV) (i : Nat) (p : PV), (zipP l m)[i]? = some p → ∃ q r, l[i]? = some q ∧ m[i]? = some r ∧ p = .tup [q, r]
  | [], _, i, p, e => by simp [zipP] at e
  | x :: xs, [], i, p, e => by simp [zipP] at e
  | x :: xs, y :: ys, 0, p, e => by
    simp only [zipP, List.getElem?_cons_zero, Option.some.injEq] at e
    exact ⟨x, y, rfl, rfl, e.symm⟩
  | x :: xs, y :: ys, i + 1, p, e => by
    simp only [zipP, List.getElem?_cons_succ] at e
    obtain ⟨q, r, h1, h2, h3⟩ := zipP_get xs ys i p e
    exact ⟨q, r, by simpa using h1, by simpa using h2, h3⟩
theorem it_zip {a b : Addr} {l m : List PV} {lk lk2 : Lk} (hs : Src K B a l lk μ H) (hs' : Src K B b m lk2 μ H) : ItOk K B (Itz K a b) (zipP l m) (lk ++ lk2) μ H := fun i μ1 H1 B' h' st hB rl lo => by
  obtain ⟨lo1, lo2⟩ := lkOk_app lo
  obtain ⟨vs, hs1, t⟩ := hs μ1 H1 B' h' st hB rl lo1
  obtain ⟨ws, hs2, t'⟩ := hs' μ1 H1 B' h' st hB rl lo2
  refine ⟨fun p e => ?_, fun hl => ⟨vs, ws, hs1, hs2, ?_⟩⟩
  · obtain ⟨q, r, e1, e2, rfl⟩ := zipP_get l m i p e
    obtain ⟨v, ev, rv⟩ := t.get e1
    obtain ⟨w, ew, rw'⟩ := t'.get e2
    refine ⟨⟨vs, ws, v, w, hs1, hs2, ev, ew⟩, fun x H' y => ?_⟩
    obtain ⟨T, z, z', rfl, hT, rfl, hz, hz'⟩ := y
    have ex := hz vs hs1
    rw [ev] at ex; cases ex
    have ex := hz' ws hs2
    rw [ew] at ex; cases ex
    exact ⟨.new hT, rl.new hT, .newTup rl hT (.cons rv (.cons rw' .nil))⟩
  · rw [zipP_len, t.length, t'.length] at hl
    omega
theorem it_zipT {a b : Addr} {l m : List PV} {vs ws : List V} (hs : SxT K μ H a vs) (t : Reps K B μ H l vs) (hs' : SxT K μ H b ws) (t' : Reps K B μ H m ws) : ItOk K B (RZ.ItzT K a b) (zipP l m) [] μ H := fun i μ1 H1 B' h' st hB rl _ => by
  have h1 := (hs.step st).sq
  have h2 := (hs'.step st).sq
  refine ⟨fun p e => ?_, fun hl => ⟨vs, ws, h1, h2, ?_⟩⟩
  · obtain ⟨q, r, e1, e2, rfl⟩ := zipP_get l m i p e
    obtain ⟨v, ev, rv⟩ := t.get e1
    obtain ⟨w, ew, rw'⟩ := t'.get e2
    refine ⟨⟨vs, ws, v, w, h1, h2, ev, ew⟩, fun x H' y => ?_⟩
    obtain ⟨T, z, z', rfl, hT, rfl, hz, hz'⟩ := y
    have ex := hz vs h1
    rw [ev] at ex; cases ex
    have ex := hz' ws h2
    rw [ew] at ex; cases ex
    exact ⟨.new hT, rl.new hT, .newTup rl hT (.cons ((rv.ban hB).step st) (.cons ((rw'.ban hB).step st) .nil))⟩
  · rw [zipP_len, t.length, t'.length] at hl
    omega
end

section
variable {pg : Pg} {k : Nat} {N : List Str} {XC : XCT} {sc : Scope} {X : Cx} {W : WX} {pos : Pos}
def rdI (K : PySem.W.Frag) [Wd K] (XC : XCT) (W : WX) (pg : Pg) (k : Nat) (it : It) : TI := fun σ H R => ∃ B μ h ρ, Rel K B μ h H ∧ Slots K B μ H ρ σ ∧
  PostG K B XC W σ (fun μ' H' l J => ItOk K B J l.1 l.2 μ' H') R (evI (run pg k) pg.gl it ρ h) μ H
theorem PI.imp {tg x : Expr} {t t' : TI} (h : PI X tg x t) (i : ∀ σ H R, t' σ H R → t σ H R) : PI X tg x t' := ⟨fun pins s σ H R I q => h.run pins s σ H R I (i _ _ _ q)⟩
/-- a list, a tuple or a text, as it comes -/
def iAny (K : PySem.W.Frag) [Wd K] (te : TE) : TI := fun σ H R => te σ H fun x H1 =>
  (∃ a, x = .ref a ∧ (∃ xs, SqL K H1 a xs) ∧ R (Itl K a) H1) ∨ (∃ a, x = .ref a ∧ (∃ xs, SqT K H1 a xs) ∧ R (Itt K a) H1) ∨ ∃ s, x = .str s ∧ R (Its s) H1
theorem pi_any {tg l : Expr} {tl : TE} (hl : PE X l tl) : PI X tg l (iAny X.K tl) := by
  refine ⟨fun pins s σ H R I h => ?_⟩
  refine thn (hl.run pins s σ H _ I h) fun v s1 ⟨x, H1, I1, r1, q1⟩ => ?_
  rcases q1 with ⟨a, e, ⟨xs, hq⟩, q⟩ | ⟨a, e, ⟨xs, hq⟩, q⟩ | ⟨z, e, q⟩
  · subst e
    cases r1
    obtain ⟨its, rv, p, hz⟩ := I1.list hq
    refine wpAny_pyIter_list p.isList ?_
    refine ⟨s1.heap.objs.size, [s1.heap.objs.size], _, _, H1, rfl, I1.kept (t' := s1.toks) fun b o e => Heap.get?_push_of_some _ e, turn_list a _, ⟨_, Heap.get?_push_size _ rfl, rfl, rfl⟩, fun b hb => ?_, q⟩
    have e : b = s1.heap.objs.size := by simpa using hb
    subst e
    exact I1.fpOk (Nat.le_refl _) (I1.hok.fresh (Nat.le_refl _))
  · subst e
    cases r1
    obtain ⟨its, rv, p, hz⟩ := I1.tuple hq
    refine wpAny_pyIter_tuple (show s1.heap.IsTuple a its.toArray from p) ?_
    refine ⟨s1.heap.objs.size, [s1.heap.objs.size], _, _, H1, rfl, I1.kept (t' := s1.toks) fun b o e => Heap.get?_push_of_some _ e, turn_tuple a _, ⟨_, Heap.get?_push_size _ rfl, rfl, rfl⟩, fun b hb => ?_, q⟩
    have e : b = s1.heap.objs.size := by simpa using hb
    subst e
    exact I1.fpOk (Nat.le_refl _) (I1.hok.fresh (Nat.le_refl _))
  · subst e
    obtain ⟨t, rfl⟩ := r1
    cases ha : z.cps.all (· < 128)
    · exact wpAny_pyIter_wide ha (pi_one (tk := s1.toks) I1 _ (turn_str _ z t "str_iterator" (.inr rfl)) ⟨_, Heap.get?_push_size _ rfl, rfl, rfl⟩ q)
    · exact wpAny_pyIter_ascii ha (pi_one (tk := s1.toks) I1 _ (turn_str _ z t "str_ascii_iterator" (.inl rfl)) ⟨_, Heap.get?_push_size _ rfl, rfl, rfl⟩ q)
theorem rng_le {i : Int} (h : rngOk i = true) : i.natAbs ≤ 1000000000000000000 := Nat.le_of_ble_eq_true h
theorem rngOk_of {i : Int} (h : i.natAbs ≤ 1000000000000000000) : rngOk i = true := Nat.ble_eq_true_of_le h
theorem rng_ok {i : Int} (h : rngOk i = true) : -(2 ^ 62) ≤ i ∧ i < 2 ^ 62 := by
  have := rng_le h
  omega
theorem s_iseq {e : E} {tg x : Expr} (ih : PE X x (rdE X.K XC W pg k e)) : PI X tg x (rdI X.K XC W pg k (.seq e)) := by
  refine PI.imp (pi_any ih) fun σ H R hq => ?_
  obtain ⟨B, μ, h0, ρ, rl, sl, p⟩ := hq
  simp only [evI] at p
  refine ⟨B, μ, h0, ρ, rl, sl, p.bnd fun v h1 x1 μ1 H1 _ st1 rl1 rp1 p1 => ?_⟩
  simp only at p1
  split at p1
  · obtain ⟨a, vs, rfl, hs, t⟩ := Rep.tup_iff.mp rp1
    exact .inr (.inl ⟨a, rfl, ⟨vs, hs.sq⟩, p1 _ μ1 H1 .refl rl1 (it_tup hs t)⟩)
  · obtain ⟨e1, _, e3⟩ := Rep.str_iff.mp rp1
    exact .inr (.inr ⟨_, e1, p1 _ μ1 H1 .refl rl1 (it_str e3)⟩)
  · split at p1
    · rename_i w ew
      obtain ⟨a, rfl, hq, src⟩ := src_view rl1 rp1 ew
      exact .inl ⟨a, rfl, hq, p1 _ μ1 H1 .refl rl1 (it_list src)⟩
    · exact p1.elim
theorem s_irng1 {e : E} {tg x : Expr} {f : Str} {p : Pos} (G : Good pg k N XC sc X) (hg : glB sc f = true) (hf : f = ("range" : Str)) (ih : PE X x (rdE X.K XC W pg k e)) (hp : plainHd x = true) : PI X tg (.Call (.Name f p) [x] [] pos) (rdI X.K XC W pg k (.rng1 e)) := by
  subst hf
  obtain ⟨g1, _, _⟩ := G.glob hg
  refine PI.imp (pi_range1 g1 (G.bmg (by decide +kernel)) (pa_cons ih pa_nil (plain_star hp _ _)) (plain_star hp _ _)) fun σ H R hq => ?_
  obtain ⟨B, μ, h0, ρ, rl, sl, p⟩ := hq
  simp only [evI] at p
  refine ⟨B, μ, h0, ρ, rl, sl, p.bnd fun v h1 x1 μ1 H1 _ st1 rl1 rp1 p1 => ?_⟩
  simp only at p1
  split at p1
  · split at p1
    · rename_i j hj
      obtain ⟨b1, b2⟩ := rng_ok hj
      refine ⟨_, by rw [Rep.int_iff.mp rp1], b1, b2, p1 _ μ1 H1 .refl rl1 it_rng⟩
    · exact p1.elim
  · exact p1.elim
theorem s_irng2 {a b : E} {tg x y : Expr} {f : Str} {p : Pos} (G : Good pg k N XC sc X) (hg : glB sc f = true) (hf : f = ("range" : Str)) (iha : PE X x (rdE X.K XC W pg k a)) (ihb : PE X y (rdE X.K XC W pg k b)) (hp : plainHd x = true) (hp2 : plainHd y = true) :
    PI X tg (.Call (.Name f p) [x, y] [] pos) (rdI X.K XC W pg k (.rng2 a b)) := by
  subst hf
  obtain ⟨g1, _, _⟩ := G.glob hg
  have s2 : starEach [y] X.env = [(false, eval y X.env)] := plain_star hp2 _ _
  have s1 : starEach [x, y] X.env = [(false, eval x X.env), (false, eval y X.env)] := by rw [plain_star hp, s2]
  refine PI.imp (pi_range2 g1 (G.bmg (by decide +kernel)) (pa_cons iha (pa_cons ihb pa_nil (plain_star hp2 _ _)) (plain_star hp _ _)) s1 s2) fun σ H R hq => ?_
  obtain ⟨B, μ, h0, ρ, rl, sl, p⟩ := hq
  simp only [evI] at p
  refine ⟨B, μ, h0, ρ, rl, sl, p.bnd fun v h1 x1 μ1 H1 _ st1 rl1 rp1 p1 => ?_⟩
  refine ⟨B, μ1, h1, ρ, rl1, sl.step st1, p1.bnd fun u h2 y2 μ2 H2 _ st2 rl2 rp2 p2 => ?_⟩
  simp only at p2
  split at p2
  · split at p2
    · rename_i i j hj
      obtain ⟨b1, b2⟩ := rng_ok hj.1
      obtain ⟨b3, b4⟩ := rng_ok hj.2
      refine ⟨_, _, by rw [Rep.int_iff.mp rp1, Rep.int_iff.mp rp2], ⟨b1, b2, b3, b4⟩, p2 _ μ2 H2 .refl rl2 it_rng⟩
    · exact p2.elim
  · exact p2.elim
theorem s_ienm {e : E} {x : Expr} {es : List Expr} {n : Nat} {p2 : Pos} {f : Str} {p : Pos} (G : Good pg k N XC sc X) (hg : glB sc f = true) (hf : f = ("enumerate" : Str)) (ih : PE X x (rdE X.K XC W pg k e)) (hp : plainHd x = true) :
    PI X (.Tuple es n p2) (.Call (.Name f p) [x] [] pos) (rdI X.K XC W pg k (.enm e)) := by
  subst hf
  obtain ⟨g1, _, _⟩ := G.glob hg
  refine PI.imp (pi_enumA g1 (G.bmg (by decide +kernel)) (pa_cons ih pa_nil (plain_star hp _ _)) (plain_star hp _ _)) fun σ H R hq => ?_
  obtain ⟨B, μ, h0, ρ, rl, sl, p⟩ := hq
  simp only [evI] at p
  refine ⟨B, μ, h0, ρ, rl, sl, p.bnd fun v h1 x1 μ1 H1 _ st1 rl1 rp1 p1 => ?_⟩
  simp only at p1
  split at p1
  · obtain ⟨a, vs, rfl, hs, t⟩ := Rep.tup_iff.mp rp1
    exact ⟨a, vs, rfl, .inr ⟨hs.sq, p1 _ μ1 H1 .refl rl1 (it_enumT hs t)⟩⟩
  · split at p1
    · rename_i w ew
      obtain ⟨a, rfl, ⟨vs, hq⟩, src⟩ := src_view rl1 rp1 ew
      exact ⟨a, vs, rfl, .inl ⟨hq, p1 _ μ1 H1 .refl rl1 (it_enum src)⟩⟩
    · exact p1.elim
theorem s_izip {a b : E} {x y : Expr} {es : List Expr} {n : Nat} {p2 : Pos} {f : Str} {p : Pos} (G : Good pg k N XC sc X) (hg : glB sc f = true) (hf : f = ("zip" : Str)) (iha : PE X x (rdE X.K XC W pg k a)) (ihb : PE X y (rdE X.K XC W pg k b)) (hp : plainHd x = true) (hp2 : plainHd y = true) :
    PI X (.Tuple es n p2) (.Call (.Name f p) [x, y] [] pos) (rdI X.K XC W pg k (.zip a b)) := by
  subst hf
  obtain ⟨g1, _, _⟩ := G.glob hg
  refine PI.imp (RZ.pi_zipA g1 (G.bmg (by decide +kernel)) (pa_cons iha (pa_cons ihb pa_nil (plain_star hp2 _ _)) (plain_star hp _ _)) (plain_star hp _ _) (plain_any (by rw [List.all_cons, hp2]; rfl))) fun σ H R hq => ?_
  obtain ⟨B, μ, h0, ρ, rl, sl, p⟩ := hq
  simp only [evI] at p
  refine ⟨B, μ, h0, ρ, rl, sl, p.bnd fun v h1 x1 μ1 H1 _ st1 rl1 rp1 p1 => ?_⟩
  refine ⟨B, μ1, h1, ρ, rl1, sl.step st1, p1.bnd fun u h2 y2 μ2 H2 _ st2 rl2 rp2 p2 => ?_⟩
  simp only at p2
  split at p2
  · obtain ⟨a, vs, e1, hs, t⟩ := Rep.tup_iff.mp (rp1.step st2)
    obtain ⟨b, ws, e2, hs', t'⟩ := Rep.tup_iff.mp rp2
    exact ⟨a, b, vs, ws, by rw [e1, e2], .inr ⟨hs.sq, hs'.sq, p2 _ μ2 H2 .refl rl2 (it_zipT hs t hs' t')⟩⟩
  · split at p2
    · rename_i w1 w2 ew1 ew2
      obtain ⟨a, e1, ⟨vs, hq⟩, src⟩ := src_view rl2 (rp1.step st2) ew1
      obtain ⟨b, e2, ⟨ws, hq'⟩, src'⟩ := src_view rl2 rp2 ew2
      exact ⟨a, b, vs, ws, by rw [e1, e2], .inl ⟨hq, hq', p2 _ μ2 H2 .refl rl2 (it_zip src src')⟩⟩
    · exact p2.elim
theorem s_idks {e : E} {tg x : Expr} (ih : PE X x (rdE X.K XC W pg k e)) : PI X tg x (rdI X.K XC W pg k (.dks e)) := by
  refine PI.imp (pi_keys ih) fun σ H R hq => ?_
  obtain ⟨B, μ, h0, ρ, rl, sl, p⟩ := hq
  simp only [evI] at p
  refine ⟨B, μ, h0, ρ, rl, sl, p.bnd fun v h1 x1 μ1 H1 _ st1 rl1 rp1 p1 => ?_⟩
  simp only at p1
  split at p1
  · split at p1
    · rename_i n l el
      obtain ⟨a, o, kvs, ha, hH, ⟨e1, g⟩, _⟩ := rl1.fz el
      obtain ⟨b, rfl, hb⟩ := Rep.ref_iff.mp rp1
      rw [ha] at hb; cases hb
      exact ⟨a, o, rfl, .inl ⟨kvs, hH, p1 _ μ1 H1 .refl rl1 (it_keys hH e1 g)⟩⟩
    · exact p1.elim
  · exact p1.elim
theorem s_idksN {e : E} {tg x : Expr} (ih : PE X x (rdE X.K XC W pg k e)) : PI X tg x (rdI X.K XC W pg k (.dksN e)) := by
  refine PI.imp (pi_keysN ih) fun σ H R hq => ?_
  obtain ⟨B, μ, h0, ρ, rl, sl, p⟩ := hq
  simp only [evI] at p
  refine ⟨B, μ, h0, ρ, rl, sl, p.bnd fun v h1 x1 μ1 H1 _ st1 rl1 rp1 p1 => ?_⟩
  simp only at p1
  split at p1
  · split at p1
    · rename_i n l el
      obtain ⟨a, o, xs, vs, ha, hH, hz, ⟨e1, nd⟩, g, _, _⟩ := rl1.fzN el
      obtain ⟨b, rfl, hb⟩ := Rep.ref_iff.mp rp1
      rw [ha] at hb; cases hb
      exact ⟨a, o, xs, rfl, hz.1, hH, p1 _ μ1 H1 .refl rl1 (it_keysN hH e1 fun x hx => (g x hx).1)⟩
    · exact p1.elim
  · exact p1.elim
/-- an expression while a dict is locked -/
theorem s_lck {i : Nat} {e : E} {x : Expr} (ih : PE X x (rdE X.K XC W pg k e)) : PE X x (rdE X.K XC W pg k (.lck i e)) := by
  refine PE.imp (pe_lock ih) fun σ H Q hq => ?_
  obtain ⟨B, μ, h, ρ, rl, sl, p⟩ := hq
  simp only [evE] at p
  split at p
  · rename_i n en
    split at p
    · rename_i l el
      obtain ⟨a, kvs, ha, hH, lo⟩ := rl.lock el
      refine ⟨a, .dK kvs, hH, trivial, fun od => ?_⟩
      obtain ⟨st1, rl1⟩ := lo od
      refine ⟨B, μ, h.set n (.fz l), ρ, rl1, sl.step st1, ?_⟩
      cases er : evE (run pg k) pg.gl e ρ (h.set n (.fz l)) with
      | error z => rw [er] at p; exact p.elim
      | ok r =>
        rw [er] at p
        simp only at p
        split at p
        · rename_i m em
          intro y μ2 H2 st2 rl2 rp2
          have hfz : H2 a = some (.frz od (.dK kvs)) := st2.fz _ _ _ upd_same
          have ha2 := st2.get ha
          obtain ⟨rl3, rp3⟩ := rl2.unlock em ha2 hfz
          exact ⟨hfz, p y μ2 _ (Step.locked hH (by intro _ _ z; cases z) (List.mem_of_getElem? ha) st2) rl3 (rp3 rp2)⟩
        · exact p.elim
    · exact p.elim
  · exact p.elim
end
end Rg

namespace Rg
open PySem PySem.Spec PyProof.Rows L2
theorem lookup_relS_free {sc : Scope} : ∀ {names : List (Str × NameKind)} {x : Str}, names.lookup x = some .free →
    (names.map fun (n, k) => if (k == NameKind.free && sc.kind == .function && sc.names.lookup n == some .cell) then (n, NameKind.cell) else (n, k)).lookup x = some .free ∨
    (names.map fun (n, k) => if (k == NameKind.free && sc.kind == .function && sc.names.lookup n == some .cell) then (n, NameKind.cell) else (n, k)).lookup x = some .cell
  | [], _, h => by simp at h
  | (n, k₀) :: r, x, h => by
    have ih := @lookup_relS_free sc r x
    show List.lookup x ((if (k₀ == NameKind.free && sc.kind == .function && sc.names.lookup n == some .cell) = true then (n, NameKind.cell) else (n, k₀)) :: (r.map _)) = some .free ∨
      List.lookup x ((if (k₀ == NameKind.free && sc.kind == .function && sc.names.lookup n == some .cell) = true then (n, NameKind.cell) else (n, k₀)) :: (r.map _)) = some .cell
    cases hx : x == n with
    | true =>
      simp only [List.lookup_cons, hx] at h
      cases h
      by_cases hc : (NameKind.free == NameKind.free && sc.kind == .function && sc.names.lookup n == some .cell) = true
      · rw [if_pos hc]; right; simp only [List.lookup_cons, hx]
      · rw [if_neg hc]; left; simp only [List.lookup_cons, hx]
    | false =>
      simp only [List.lookup_cons, hx] at h
      by_cases hc : (k₀ == NameKind.free && sc.kind == .function && sc.names.lookup n == some .cell) = true
      · rw [if_pos hc]; simp only [List.lookup_cons, hx]; exact ih h
      · rw [if_neg hc]; simp only [List.lookup_cons, hx]; exact ih h
section
variable {pg : Pg} {k : Nat} {N : List Str} {XC : XCT} {sc : Scope} {X : Cx} {W : WX} {pos : Pos}
abbrev WN : WX := fun _ _ _ _ => False
/-- a comprehension's block serves too -/
theorem Good.blk (G : Good pg k N XC sc X) {scope : Scope} (hk : scope.kind = .function) (s : Shared) (H : Hp) (C : Addr) (cl : List (Str × Addr)) (fp : List Addr) : Good pg k N XC scope (X.blk s H scope (compEnvC scope cl C X.env) fp) := by
  have keep : ∀ {x : Str} {kd : NameKind}, kd ≠ .free → scope.names.lookup x = some kd → (compEnvC scope cl C X.env).scope.names.lookup x = some kd := fun {x kd} h e => lookup_relS_keep (sc := X.env.scope) h e
  have fr : ∀ {x : Str}, scope.names.lookup x = some .free → (compEnvC scope cl C X.env).scope.names.lookup x = some .free ∨ (compEnvC scope cl C X.env).scope.names.lookup x = some .cell := fun {x} e => lookup_relS_free (sc := X.env.scope) e
  refine ⟨G.hN, G.nd, G.calm, G.room, hk, fun x h => ?_, fun x h => ?_, fun x h => keep (by decide) h, fun x h => keep (by decide) h, fun x h => keep (by decide) h, fun x h => ?_, G.fns, G.gls, G.blt, G.fls, G.mts, G.exs, G.ups, G.mks⟩
  · unfold visB at h
    split at h
    · rename_i e; exact .inl (keep (by decide) e)
    · rename_i e; exact .inr (.inl (keep (by decide) e))
    · rename_i e; exact (fr e).elim (fun z => .inr (.inr z)) (fun z => .inr (.inl z))
    · cases h
  · unfold locB at h
    split at h
    · rename_i e; exact ⟨.inl (keep (by decide) e), .inr (keep (by decide) e)⟩
    · rename_i e; exact ⟨.inr (keep (by decide) e), .inl (by show (scope.names.lookup x == some .cell) = true; rw [e]; rfl)⟩
    · cases h
  · rcases h with h | h
    · exact .inl (keep (by decide) h)
    · exact (fr h).symm
theorem Good.blkOk (G : Good pg k N XC sc X) {scope : Scope} {own : List (Str × Nat)} (h : blkC N sc scope own = true) : BlkOk X.N X.env.scope scope own := by
  have b := blkOk_by h
  rw [G.hN]
  exact ⟨b.kind, b.uniq, b.ix, fun y hy e => G.cap _ (b.free y hy e), b.own⟩
def rdTs (K : PySem.W.Frag) [Wd K] (XC : XCT) (pg : Pg) (k : Nat) : Es → TT
  | .nil => tYes
  | .cons e _ => rdT K XC WN pg k e
theorem Rel.ban {K : PySem.W.Frag} [Wd K] {B μ : List Addr} {h : MH} {H : Hp} (r : Rel K B μ h H) {D : Addr} {xs : List V} (hD : H D = none) : Rel K (D :: B) μ h (upd H D (.lst xs)) := by
  have r2 := r.new (o := .lst xs) hD
  refine ⟨r2.len, r2.nd, fun a ha => ?_, fun a ha => ?_, fun n c e => ?_⟩
  · rcases List.mem_cons.mp ha with z | z
    · rw [z]; exact r.fresh hD
    · exact r.sep a z
  · rcases List.mem_cons.mp ha with z | z
    · rw [z]; exact ⟨_, upd_same⟩
    · exact r2.trB a z
  · obtain ⟨a, ha, hc⟩ := r.cell n c e
    refine ⟨a, ha, ?_⟩
    obtain ⟨x, ex⟩ := r.tracked (List.mem_of_getElem? ha)
    have ne := ne_of_none ex hD
    cases c with
    | lst l =>
      obtain ⟨vs, h1, h2⟩ := hc
      refine ⟨vs, by rw [upd_ne ne]; exact h1, Reps.step (.new hD) (h2.ban fun b hb => ?_)⟩
      rcases List.mem_cons.mp hb with z | z
      · rw [z]; exact .inr hD
      · exact .inl z
    | dct l =>
      obtain ⟨vs, h1, h0, h2⟩ := hc
      refine ⟨vs, by rw [upd_ne ne]; exact h1, h0, Reps.step (.new hD) (h2.ban fun b hb => ?_)⟩
      rcases List.mem_cons.mp hb with z | z
      · rw [z]; exact .inr hD
      · exact .inl z
    | fz l =>
      obtain ⟨o, vs, h1, h0, h2⟩ := hc
      refine ⟨o, vs, by rw [upd_ne ne]; exact h1, h0, Reps.step (.new hD) (h2.ban fun b hb => ?_)⟩
      rcases List.mem_cons.mp hb with z | z
      · rw [z]; exact .inr hD
      · exact .inl z
    | dcT l =>
      obtain ⟨vs, h1, h0, h2⟩ := hc
      refine ⟨vs, by rw [upd_ne ne]; exact h1, h0, Reps.step (.new hD) (h2.ban fun b hb => ?_)⟩
      rcases List.mem_cons.mp hb with z | z
      · rw [z]; exact .inr hD
      · exact .inl z
    | obj c fs =>
      obtain ⟨C, dx, fv, h1, hc, hk, h2⟩ := hc
      refine ⟨C, dx, fv, by rw [upd_ne ne]; exact h1, hc, hk, Reps.step (.new hD) (h2.ban fun b hb => ?_)⟩
      rcases List.mem_cons.mp hb with z | z
      · rw [z]; exact .inr hD
      · exact .inl z
    | dcN l =>
      obtain ⟨xs, vs, h1, h0, h3, h4, h5, h6⟩ := hc
      have hB : ∀ b ∈ D :: B, b ∈ B ∨ H b = none := fun b hb => by
        rcases List.mem_cons.mp hb with z | z
        · rw [z]; exact .inr hD
        · exact .inl z
      exact ⟨xs, vs, by rw [upd_ne ne]; exact h1, h0, h3, fun x hx => ⟨Rep.step (.new hD) ((h4 x hx).1.ban hB), (h4 x hx).2⟩, h5, Reps.step (.new hD) (h6.ban hB)⟩
    | fzN l =>
      obtain ⟨o, xs, vs, h1, h0, h3, h4, h5, h6⟩ := hc
      have hB : ∀ b ∈ D :: B, b ∈ B ∨ H b = none := fun b hb => by
        rcases List.mem_cons.mp hb with z | z
        · rw [z]; exact .inr hD
        · exact .inl z
      exact ⟨o, xs, vs, by rw [upd_ne ne]; exact h1, h0, h3, fun x hx => ⟨Rep.step (.new hD) ((h4 x hx).1.ban hB), (h4 x hx).2⟩, h5, Reps.step (.new hD) (h6.ban hB)⟩
theorem Rel.unban {K : PySem.W.Frag} [Wd K] {D : Addr} {B μ : List Addr} {h : MH} {H : Hp} (r : Rel K (D :: B) μ h H) : Rel K B μ h H := by
  refine ⟨r.len, r.nd, fun a ha => r.sep a (List.mem_cons_of_mem _ ha), fun a ha => r.trB a (List.mem_cons_of_mem _ ha), fun n c e => ?_⟩
  obtain ⟨a, ha, hc⟩ := r.cell n c e
  refine ⟨a, ha, ?_⟩
  cases c with
  | lst l =>
    obtain ⟨vs, h1, h2⟩ := hc
    exact ⟨vs, h1, h2.ban fun b hb => .inl (List.mem_cons_of_mem _ hb)⟩
  | dct l =>
    obtain ⟨vs, h1, h0, h2⟩ := hc
    exact ⟨vs, h1, h0, h2.ban fun b hb => .inl (List.mem_cons_of_mem _ hb)⟩
  | fz l =>
    obtain ⟨o, vs, h1, h0, h2⟩ := hc
    exact ⟨o, vs, h1, h0, h2.ban fun b hb => .inl (List.mem_cons_of_mem _ hb)⟩
  | dcT l =>
    obtain ⟨vs, h1, h0, h2⟩ := hc
    exact ⟨vs, h1, h0, h2.ban fun b hb => .inl (List.mem_cons_of_mem _ hb)⟩
  | obj c fs =>
    obtain ⟨C, dx, fv, h1, hc, hk, h2⟩ := hc
    exact ⟨C, dx, fv, h1, hc, hk, h2.ban fun b hb => .inl (List.mem_cons_of_mem _ hb)⟩
  | dcN l =>
    obtain ⟨xs, vs, h1, h0, h3, h4, h5, h6⟩ := hc
    exact ⟨xs, vs, h1, h0, h3, fun x hx => ⟨(h4 x hx).1.ban fun b hb => .inl (List.mem_cons_of_mem _ hb), (h4 x hx).2⟩, h5, h6.ban fun b hb => .inl (List.mem_cons_of_mem _ hb)⟩
  | fzN l =>
    obtain ⟨o, xs, vs, h1, h0, h3, h4, h5, h6⟩ := hc
    exact ⟨o, xs, vs, h1, h0, h3, fun x hx => ⟨(h4 x hx).1.ban fun b hb => .inl (List.mem_cons_of_mem _ hb), (h4 x hx).2⟩, h5, h6.ban fun b hb => .inl (List.mem_cons_of_mem _ hb)⟩
theorem Rel.toCell {K : PySem.W.Frag} [Wd K] {D : Addr} {B μ : List Addr} {h : MH} {H : Hp} (r : Rel K (D :: B) μ h H) {w : List V} {l : List PV} (hH : H D = some (.lst w)) (hr : Reps K (D :: B) μ H l w) (nB : D ∉ B) : Rel K B (μ ++ [D]) (h ++ [.lst l]) H := by
  have nD : D ∉ μ := r.sep D List.mem_cons_self
  refine ⟨by rw [List.length_append, List.length_append, r.len]; rfl, ?_, fun a ha => ?_, fun a ha => r.trB a (List.mem_cons_of_mem _ ha), fun n c e => ?_⟩
  · rw [List.nodup_append]
    refine ⟨r.nd, by simp, fun a ha b hb e => ?_⟩
    rw [List.mem_singleton] at hb
    subst hb; subst e
    exact nD ha
  · rw [List.mem_append, List.mem_singleton]
    rintro (z | z)
    · exact r.sep a (List.mem_cons_of_mem _ ha) z
    · subst z; exact nB ha
  · by_cases hn : n < h.length
    · rw [List.getElem?_append_left hn] at e
      obtain ⟨a, ha, hc⟩ := r.cell n c e
      refine ⟨a, by rw [List.getElem?_append_left (List.getElem?_eq_some_iff.mp ha).1]; exact ha, ?_⟩
      cases c with
      | lst l =>
        obtain ⟨vs, h1, h2⟩ := hc
        exact ⟨vs, h1, h2.toCell hH⟩
      | dct l =>
        obtain ⟨vs, h1, h0, h2⟩ := hc
        exact ⟨vs, h1, h0, h2.toCell hH⟩
      | fz l =>
        obtain ⟨o, vs, h1, h0, h2⟩ := hc
        exact ⟨o, vs, h1, h0, h2.toCell hH⟩
      | dcT l =>
        obtain ⟨vs, h1, h0, h2⟩ := hc
        exact ⟨vs, h1, h0, h2.toCell hH⟩
      | obj c fs =>
        obtain ⟨C, dx, fv, h1, hc, hk, h2⟩ := hc
        exact ⟨C, dx, fv, h1, hc, hk, h2.toCell hH⟩
      | dcN l =>
        obtain ⟨xs, vs, h1, h0, h3, h4, h5, h6⟩ := hc
        exact ⟨xs, vs, h1, h0, h3, fun x hx => ⟨(h4 x hx).1.toCell hH, (h4 x hx).2⟩, h5, h6.toCell hH⟩
      | fzN l =>
        obtain ⟨o, xs, vs, h1, h0, h3, h4, h5, h6⟩ := hc
        exact ⟨o, xs, vs, h1, h0, h3, fun x hx => ⟨(h4 x hx).1.toCell hH, (h4 x hx).2⟩, h5, h6.toCell hH⟩
    · rw [List.getElem?_append_right (by omega)] at e
      have hz : n - h.length = 0 := by
        have := (List.getElem?_eq_some_iff.mp e).1
        simp at this
        omega
      rw [hz] at e
      have ec : c = .lst l := by simpa using e.symm
      subst ec
      refine ⟨D, ?_, w, hH, hr.toCell hH⟩
      have : n = μ.length := by rw [r.len]; omega
      subst this
      simp
theorem Rel.updBan {K : PySem.W.Frag} [Wd K] {D : Addr} {B μ : List Addr} {h : MH} {H : Hp} (r : Rel K B μ h H) {w w' : List V} (hD : D ∈ B) (hH : H D = some (.lst w)) : Rel K B μ h (upd H D (.lst w')) := by
  refine ⟨r.len, r.nd, r.sep, fun a ha => ?_, fun n c e => ?_⟩
  · by_cases z : a = D
    · rw [z]; exact ⟨_, upd_same⟩
    · obtain ⟨x, ex⟩ := r.trB a ha; exact ⟨x, by rw [upd_ne z]; exact ex⟩
  · obtain ⟨a, ha, hc⟩ := r.cell n c e
    refine ⟨a, ha, ?_⟩
    have ne : a ≠ D := fun z => r.sep D hD (z ▸ List.mem_of_getElem? ha)
    cases c with
    | lst l =>
      obtain ⟨vs, h1, h2⟩ := hc
      exact ⟨vs, by rw [upd_ne ne]; exact h1, h2.updBan hD hH⟩
    | dct l =>
      obtain ⟨vs, h1, h0, h2⟩ := hc
      exact ⟨vs, by rw [upd_ne ne]; exact h1, h0, h2.updBan hD hH⟩
    | fz l =>
      obtain ⟨o, vs, h1, h0, h2⟩ := hc
      exact ⟨o, vs, by rw [upd_ne ne]; exact h1, h0, h2.updBan hD hH⟩
    | dcT l =>
      obtain ⟨vs, h1, h0, h2⟩ := hc
      exact ⟨vs, by rw [upd_ne ne]; exact h1, h0, h2.updBan hD hH⟩
    | obj c fs =>
      obtain ⟨C, dx, fv, h1, hc, hk, h2⟩ := hc
      exact ⟨C, dx, fv, by rw [upd_ne ne]; exact h1, hc, hk, h2.updBan hD hH⟩
    | dcN l =>
      obtain ⟨xs, vs, h1, h0, h3, h4, h5, h6⟩ := hc
      exact ⟨xs, vs, by rw [upd_ne ne]; exact h1, h0, h3, fun x hx => ⟨(h4 x hx).1.updBan hD hH, (h4 x hx).2⟩, h5, h6.updBan hD hH⟩
    | fzN l =>
      obtain ⟨o, xs, vs, h1, h0, h3, h4, h5, h6⟩ := hc
      exact ⟨o, xs, vs, by rw [upd_ne ne]; exact h1, h0, h3, fun x hx => ⟨(h4 x hx).1.updBan hD hH, (h4 x hx).2⟩, h5, h6.updBan hD hH⟩
theorem noEx_ok {α : Type} {x : R α} {a : α} (h : noEx x = .ok a) : x = .ok a := by
  unfold noEx at h
  split at h
  · exact h
  · cases h
theorem compL_ex {f : PV → MH → R (Option PV × MH)} {lk : Lk} (hf : ∀ x h c h', f x h ≠ .error (.exc c h')) : ∀ {xs : List PV} {h : MH} {acc : List PV} {c : Str} {h' : MH}, compL f lk xs h acc ≠ .error (.exc c h')
  | [], _, _, _, _ => by simp only [compL]; split <;> (intro z; cases z)
  | x :: xs, h, acc, c, h' => by
    simp only [compL]
    split
    · refine bnd_ex (hf _ _ _ _) fun r => ?_
      split
      · split
        · exact compL_ex hf
        · intro z; cases z
      · exact compL_ex hf
    · intro z; cases z
theorem comp_main {K : PySem.W.Frag} [Wd K] {m : Bool} {elt : E} {tg : Tg} {it : It} {ifs : Es} {own : List (Str × Nat)} (hin : tgIn (own.map (·.2)) tg = true) (hifs : ifs = .nil ∨ ∃ e, ifs = .cons e .nil) (σ : L2.St) (H : Hp) (Q : VK)
    (hq : rdE K XC W pg k (.comp m elt tg it ifs own) σ H Q) : tLc (rdI K XC W pg k it) (rdG K tg) (rdTs K XC pg k ifs) (rdE K XC WN pg k elt) (own.map (·.2)) σ H Q := by
  obtain ⟨B, μ, h0, ρ, rl, sl, p⟩ := hq
  simp only [evE] at p
  generalize hf : (fun v h => noEx (bnd (bindT tg v (wipeP ρ (own.map (·.2)))) fun ρ' => bnd (evTests (run pg k) pg.gl ifs ρ' h) fun t =>
      if t.1 = true then bnd (evE (run pg k) pg.gl elt ρ' t.2) fun r => .ok (some r.1, r.2) else .ok (none, t.2)) : PV → MH → R (Option PV × MH)) = f at p
  have fex : ∀ x h c h', f x h ≠ .error (.exc c h') := fun x h c h' => by
    rw [← hf]
    simp only [noEx]
    split
    · intro z; cases z
    · intro z; cases z
  refine ⟨B, μ, h0, ρ, rl, sl, p.bnd fun items0 h1 J μ1 H1 e1 st1 rl1 it1 p1 => fun D hD => ?_⟩
  obtain ⟨items, lk⟩ := items0
  simp only at it1 p1
  have sl1 := sl.step st1
  -- the run of the whole loop
  obtain ⟨ends, h9, ec⟩ : ∃ ends h9, compL f lk items h1 [] = .ok (ends, h9) := by
    cases q : compL f lk items h1 [] with
    | ok r => exact ⟨r.1, r.2, rfl⟩
    | error er =>
      simp only [q, bnd_err] at p1
      cases er with
      | stuck => exact p1.elim
      | exc c h' => exact absurd q (compL_ex fex)
  simp only [ec, bnd_ok] at p1
  have stD : ∀ {μ' : List Addr} {H' : Hp} {w : List V}, Step μ1 H1 μ' H' → H' D = some (.lst w) → ∀ w', Step μ1 H1 μ' (upd H' D (.lst w')) := fun {μ' H' w} st hDw w' => by
    refine ⟨st.pre, fun a o e hm => ?_, fun a o e => ?_, ?_⟩
    · rw [upd_ne (ne_of_none e hD)]; exact st.keep a o e hm
    · obtain ⟨o', e'⟩ := st.trk a o e
      exact ⟨o', by rw [upd_ne (ne_of_none e hD)]; exact e'⟩
    · intro a o u e
      rw [upd_ne (ne_of_none e hD)]; exact st.fz a o u e
  refine ⟨fun i n H2 => n = items.length - i ∧ i ≤ items.length ∧ ∃ μ2 h2 acc accV, Step μ1 H1 μ2 H2 ∧ Rel K (D :: B) μ2 h2 H2 ∧ H2 D = some (.lst accV) ∧ Reps K (D :: B) μ2 H2 acc accV ∧ compL f lk (items.drop i) h2 acc = .ok (ends, h9),
    ⟨items.length, by simp, Nat.zero_le _, μ1, h1, [], [], .new hD, rl1.ban hD, upd_same, .nil, by rw [List.drop_zero]; exact ec⟩, ?_⟩
  rintro i n H2 ⟨rfl, hle, μ2, h2, acc, accV, st2, rl2, hD2, ra, ec2⟩
  have hban : ∀ a, a ∈ D :: B → a ∈ B ∨ H1 a = none := fun a ha => by
    rcases List.mem_cons.mp ha with z | z
    · rw [z]; exact .inr hD
    · exact .inl z
  have lo : lkOk lk h2 = true := by
    cases hl : lkOk lk h2 with
    | true => rfl
    | false => cases hd : items.drop i <;> (rw [hd] at ec2; simp only [compL, hl, Bool.false_eq_true, if_false] at ec2; cases ec2)
  obtain ⟨itg, its⟩ := it1 i μ2 H2 (D :: B) h2 st2 hban rl2 lo
  have nB : D ∉ B := rl1.freshB hD
  by_cases hlt : i < items.length
  · refine .inr ?_
    obtain ⟨go, yl⟩ := itg items[i] (List.getElem?_eq_getElem hlt)
    refine ⟨go, fun H' => ∃ μ2 h2 acc accV, Step μ1 H1 μ2 H' ∧ Rel K (D :: B) μ2 h2 H' ∧ H' D = some (.lst accV) ∧ Reps K (D :: B) μ2 H' acc accV ∧ compL f lk (items.drop (i + 1)) h2 acc = .ok (ends, h9),
      fun H' hN => ⟨items.length - (i + 1), by omega, rfl, hlt, hN⟩, fun x H3 y3 => ?_⟩
    obtain ⟨st3, rl3, rx⟩ := yl x H3 y3
    have nD2 : D ∉ μ2 := rl2.sep D List.mem_cons_self
    have hD3 : H3 D = some (.lst accV) := st3.keep _ _ hD2 nD2
    have st13 := st2.trans st3
    rw [List.drop_eq_getElem_cons hlt] at ec2
    simp only [compL, lo, if_true] at ec2
    obtain ⟨⟨ov, h4⟩, ef, ec2⟩ := bnd_eq_ok ec2
    rw [← hf] at ef
    have ef := noEx_ok ef
    obtain ⟨ρ', eb, ef⟩ := bnd_eq_ok ef
    obtain ⟨⟨t, h5⟩, et, ef⟩ := bnd_eq_ok ef
    have slB : Slots K (D :: B) μ2 H3 (wipeP ρ (own.map (·.2))) (L2.wipe σ (own.map (·.2))) := by
      have z : Slots K (D :: B) μ1 H1 ρ σ := ⟨sl1.1, fun j v e => by
        obtain ⟨xx, e1, r1⟩ := sl1.2 j v e
        exact ⟨xx, e1, r1.ban hban⟩⟩
      exact (z.step st13).wipe _
    refine bind_ok eb rx slB fun σ2 sl2 w2 => ⟨by rw [w2 _ hin, wipe_wipe], ?_⟩
    -- what follows the tests
    have after : ∀ μ5 H5, Step μ2 H3 μ5 H5 → Rel K (D :: B) μ5 h5 H5 → (if t = true then rdE K XC WN pg k elt σ2 H5 (fun y H4 => ∃ acc, H4 D = some (.lst acc) ∧ acc.length < sizeLine ∧
        (∃ μ2 h2 acc' accV, Step μ1 H1 μ2 (upd H4 D (.lst (acc ++ [y]))) ∧ Rel K (D :: B) μ2 h2 (upd H4 D (.lst (acc ++ [y]))) ∧ (upd H4 D (.lst (acc ++ [y]))) D = some (.lst accV) ∧ Reps K (D :: B) μ2 (upd H4 D (.lst (acc ++ [y]))) acc' accV ∧ compL f lk (items.drop (i + 1)) h2 acc' = .ok (ends, h9)))
        else ∃ μ2 h2 acc accV, Step μ1 H1 μ2 H5 ∧ Rel K (D :: B) μ2 h2 H5 ∧ H5 D = some (.lst accV) ∧ Reps K (D :: B) μ2 H5 acc accV ∧ compL f lk (items.drop (i + 1)) h2 acc = .ok (ends, h9)) := fun μ5 H5 st5 rl5 => by
      cases t with
      | false =>
        rw [if_neg Bool.false_ne_true] at ef ⊢
        cases ef
        exact ⟨μ5, h5, acc, accV, st13.trans st5, rl5, st5.keep _ _ hD3 nD2, (ra.step st3).step st5, ec2⟩
      | true =>
        rw [if_pos rfl] at ef ⊢
        obtain ⟨⟨v, h6⟩, ev, ef⟩ := bnd_eq_ok ef
        cases ef
        refine ⟨D :: B, μ5, h5, ρ', rl5, sl2.step st5, ?_⟩
        rw [ev]
        intro y μ6 H6 st6 rl6 ry
        have nD5 : D ∉ μ5 := rl5.sep D List.mem_cons_self
        have hD6 : H6 D = some (.lst accV) := st6.keep _ _ (st5.keep _ _ hD3 nD2) nD5
        simp only at ec2
        split at ec2
        · rename_i hz
          have ra6 : Reps K (D :: B) μ6 H6 acc accV := ((ra.step st3).step st5).step st6
          refine ⟨accV, hD6, by rw [← ra6.length]; exact Nat.lt_of_lt_of_le hz big_le, μ6, h6, acc ++ [v], accV ++ [y], stD ((st13.trans st5).trans st6) hD6 _, rl6.updBan List.mem_cons_self hD6, upd_same, ?_, ec2⟩
          exact (ra6.append (.cons ry .nil)).updBan List.mem_cons_self hD6
        · cases ec2
    rcases hifs with rfl | ⟨e, rfl⟩
    · simp only [evTests] at et
      cases et
      exact after μ2 H3 .refl rl3
    · simp only [evTests] at et
      obtain ⟨⟨v, h6⟩, ev, et⟩ := bnd_eq_ok et
      obtain ⟨b, eb2, et⟩ := bnd_eq_ok et
      cases et
      refine ⟨D :: B, μ2, h2, ρ', rl3, sl2, ?_⟩
      simp only [ev, bnd_ok, eb2]
      intro b' μ5 H5 st5 rl5 e5
      subst e5
      exact after μ5 H5 st5 rl5
  · have hi' : i = items.length := by omega
    subst hi'
    refine .inl ⟨its (Nat.le_refl _), ?_⟩
    rw [List.drop_length] at ec2
    simp only [compL, lo, if_true] at ec2
    cases ec2
    cases m with
    | false =>
      simp only [Bool.false_eq_true, if_false] at p1
      refine p1 (.ref D) μ2 H2 st2 rl2.unban (Rep.lst_iff.mpr ⟨D, accV, rfl, .inl ⟨.inl hD2, nB, rl2.sep D List.mem_cons_self⟩, ra.ban fun a ha => .inl (List.mem_cons_of_mem _ ha)⟩)
    | true =>
      simp only [if_true] at p1
      have stc : Step μ1 H1 (μ2 ++ [D]) H2 := by
        refine ⟨?_, st2.keep, st2.trk, st2.fz⟩
        obtain ⟨ν, e, hν⟩ := st2.pre
        refine ⟨ν ++ [D], by rw [e, List.append_assoc], fun a ha => ?_⟩
        rcases List.mem_append.mp ha with z | z
        · exact hν a z
        · rw [List.mem_singleton] at z; rw [z]; exact hD
      refine p1 (.ref D) (μ2 ++ [D]) H2 stc (rl2.toCell hD2 ra nB) (Rep.ref_iff.mpr ⟨D, rfl, ?_⟩)
      rw [← rl2.len]
      simp
theorem rdTs_eq {X X' : Cx} (hK : X'.K = X.K) (hw : X'.w = X.w) (e : Es) : rdTs X'.K XC pg k e = rdTs X.K XC pg k e := by
  have go : ∀ (K K' : PySem.W.Frag) (w w' : World), K' = K → w' = w → @rdTs K' ⟨w'⟩ XC pg k e = @rdTs K ⟨w⟩ XC pg k e := by
    rintro _ _ _ _ rfl rfl; rfl
  exact go X.K X'.K X.w X'.w hK hw
theorem rdE_eq {X X' : Cx} {W : WX} (hK : X'.K = X.K) (hw : X'.w = X.w) (e : E) : rdE X'.K XC W pg k e = rdE X.K XC W pg k e := by
  have go : ∀ (K K' : PySem.W.Frag) (w w' : World), K' = K → w' = w → @rdE K' ⟨w'⟩ XC W pg k e = @rdE K ⟨w⟩ XC W pg k e := by
    rintro _ _ _ _ rfl rfl; rfl
  exact go X.K X'.K X.w X'.w hK hw
theorem s_comp {m : Bool} {elt : E} {tg : Tg} {it : It} {ifs : Es} {own : List (Str × Nat)} {ex tx ix : Expr} {ifx : List Expr} {scope : Scope} (G : Good pg k N XC sc X) (hb : blkC N sc scope own = true) (hg : tgB N scope tg tx = true) (hin : tgIn (own.map (·.2)) tg = true)
    (hi : PI X tx ix (rdI X.K XC W pg k it)) (hfold : ∀ x, foldedSetIterable ix X.env x = pure x) (hifs : ifs = .nil ∨ ∃ e, ifs = .cons e .nil)
    (ht : ∀ X', Good pg k N XC scope X' → X'.K = X.K → X'.w = X.w → PTs X' ifx (rdTs X.K XC pg k ifs)) (he : ∀ X', Good pg k N XC scope X' → X'.K = X.K → X'.w = X.w → PE X' ex (rdE X.K XC WN pg k elt)) :
    PE X (.ListComp ex [⟨tx, ix, ifx, 0⟩] scope pos) (rdE X.K XC W pg k (.comp m elt tg it ifs own)) := by
  have bk := G.blkOk hb
  have lc := pe_lc (X := X) (pos := pos) (g := rdG X.K tg) (tt := rdTs X.K XC pg k ifs) (te := rdE X.K XC WN pg k elt) G.calm (by rw [G.hN]; exact G.nd) hi bk (fun s H C cl fp => s_tg (G.blk bk.kind s H C cl fp) hg)
    (fun s H C cl fp => ht _ (G.blk bk.kind s H C cl fp) rfl rfl) (fun s H C cl fp => he _ (G.blk bk.kind s H C cl fp) rfl rfl) hfold
  exact PE.imp lc (comp_main hin hifs)
end
end Rg

namespace RT
open PySem PySem.Spec PyProof.Rows L2
section
variable {prog : Program} {w : World} {A : Around} {E : Value → Shared → Prop} {s : Shared}
theorem extend_rev {R : Result → Shared → Prop} {it l S : Addr} {items : Array Value} (hh : A.handled = none) (hit : s.heap.IsRevIter it l ((items.size : Int) - 1)) (hl : s.heap.IsList l items) (hne : l ≠ it) (hn : items.size ≤ sizeLine) (hSi : S ≠ it) (hSl : S ≠ l) (res : Value) (c₀ : Nat)
    (hS : s.heap.get? S = some { cls := .type "list", data := .seq #[] c₀ })
    (hR : ∀ h' tk acc' c', (∀ b o, b ≠ S → b ≠ it → s.heap.get? b = some o → h'.get? b = some o) → h'.get? S = some { cls := .type "list", dict := none, data := .seq acc' c', slots := #[] } → ItemsOf (fun i v => items[items.size - 1 - i]? = some v) acc' items.size → R (.ok (.ret res)) { s with heap := h', toks := tk }) :
    wpAny (model prog w) A.in1 (Builtin.List.listExtendWith (.ref S) (.ref it) res)
      (fun fin s' => match fin with | .done f => R (.ok f) s' | .again c' => c'.quiet = true ∧ codeAny (model prog w) A c' R s') (fun e s' => R (.error e) s') s := by
  have W := (Walks.listRev (prog := prog) (w := w) (A := A.in1) hh it l hne items).toS
  have hSf : S ∉ [it, l] := by simp only [List.mem_cons, List.not_mem_nil, or_false, not_or]; exact ⟨hSi, hSl⟩
  have hT : s.TypeIs (.ref it) "list_reverseiterator" := Heap.IsRevIter.typeIs hit
  have h1 : Builtin.List.listSameRef (.ref S) (.ref it) = false := by simp [Builtin.List.listSameRef, hSi]
  unfold Builtin.List.listExtendWith
  refine wpAny_bind (wpAny_typeOf hT ?_)
  rw [if_neg (by rw [h1]; decide)]
  refine wpAny_bind (wpAny_pyIter_revIter hit ?_)
  refine wpAny_bind (wpAny_holding ?_)
  unfold Builtin.List.listLengthHint
  refine wpAny_bind (wpAny_specialOf hT nolen_lri ?_)
  show wpAny _ A.in1 (specialOf (Value.ref it) (Str.ofString "__length_hint__") >>= _) _ _ _
  refine wpAny_bind (wpAny_specialOf hT hint_lri ?_)
  generalize hid : ("list_reverseiterator.__length_hint__" : String) = id0
  wp_delta
  rw [show splitId id0 = some ("list_reverseiterator", "__length_hint__") from by subst hid; decide +kernel]
  subst hid
  refine wpAny_bind (wpAny_isInstance (b := true) hT (by rw [isSubtype_type]; kernel_rfl) ?_)
  refine wpAny_pure ?_
  rw [if_neg (by decide)]
  have e0 : ((items.size : Nat) : Int) - 1 - ((0 : Nat) : Int) = (items.size : Int) - 1 := by omega
  refine wpAny_pure ⟨plainId_quiet F.plain_extend_loop _, codeAny_extend_loopS W hn _ hSf _ items.size 0 _ _ _ rfl (Nat.zero_le _) ⟨Nat.zero_le _, by rw [e0]; exact hit, hl⟩ hS (ItemsOf.nil _) fun s' acc' c' hm hS' hacc => ?_⟩
  rw [Moved.eq_with hm]
  refine hR s'.heap s'.toks acc' c' (fun b o hb hb2 e => hm.heap b o (fun hmem => ?_) e) hS' hacc
  rcases List.mem_cons.mp hmem with e' | hmem
  · exact hb e'
  · exact hb2 (List.mem_singleton.mp hmem)
theorem init_rev {R : Result → Shared → Prop} {it l S : Addr} {items : Array Value} (hh : A.handled = none) (hit : s.heap.IsRevIter it l ((items.size : Int) - 1)) (hl : s.heap.IsList l items) (hne : l ≠ it) (hn : items.size ≤ sizeLine) (hSi : S ≠ it) (hSl : S ≠ l)
    (hS : s.heap.get? S = some { cls := .type "list", data := .seq #[] })
    (hR : ∀ h' tk acc' c', (∀ b o, b ≠ S → b ≠ it → s.heap.get? b = some o → h'.get? b = some o) → h'.get? S = some { cls := .type "list", dict := none, data := .seq acc' c', slots := #[] } → ItemsOf (fun i v => items[items.size - 1 - i]? = some v) acc' items.size → R (.ok (.ret .none)) { s with heap := h', toks := tk }) :
    wpAny (model prog w) A.in1 (Builtin.«list.__init__» ⟨[.ref S, .ref it], []⟩)
      (fun fin s' => match fin with | .done f => R (.ok f) s' | .again c' => c'.quiet = true ∧ codeAny (model prog w) A c' R s') (fun e s' => R (.error e) s') s := by
  show wpAny _ _ (do let old ← Builtin.List.listItems (.ref S); Builtin.List.listUpdate (.ref S) (fun _ => #[]); letGo old.toList.reverse; Builtin.List.listExtendWith (.ref S) (.ref it) .none) _ _ s
  refine wpAny_bind ?_
  unfold Builtin.List.listItems
  refine wpAny_bind (wpAny_seqItems hS rfl (wpAny_pure ?_))
  show wpAny _ _ (updateSeq S (fun _ => #[]) >>= fun _ => letGo (#[] : Array Value).toList.reverse >>= fun _ => Builtin.List.listExtendWith (.ref S) (.ref it) .none) _ _ s
  refine wpAny_bind (wpAny_updateSeq hS rfl ?_)
  have hS₂ := Heap.get?_update_self (Obj.mapSeq (fun _ => (#[] : Array Value))) hS rfl
  have oth : ∀ b o, b ≠ S → s.heap.get? b = some o → (s.heap.update S (Obj.mapSeq (fun _ => (#[] : Array Value)))).get? b = some o :=
    fun b o hb e => (Heap.get?_update_other _ _ (Ne.symm hb)).trans e
  refine wpAny_bind (wpAny_letGo ?_)
  refine extend_rev hh (hit.at fun o e => oth _ o (Ne.symm hSi) e) ?_ hne hn hSi hSl .none _ hS₂ (fun h' tk acc' c' hk hS' hacc => ?_)
  · obtain ⟨o, h1, h2⟩ := hl
    exact ⟨o, oth _ o (Ne.symm hSl) h1, h2⟩
  · exact hR h' tk acc' c' (fun b o hb hb2 e => hk b o hb hb2 (oth b o hb e)) hS' hacc
theorem call_list_rev {it l : Addr} {items : Array Value} {Q : Value → Shared → Prop} (hh : A.handled = none) (hit : s.heap.IsRevIter it l ((items.size : Int) - 1)) (hl : s.heap.IsList l items) (hne : l ≠ it) (hn : items.size ≤ sizeLine)
    (hQ : ∀ (h' : Heap) (tk : Nat) (acc : Array Value) (c' : Nat), (∀ b o, b ≠ it → s.heap.get? b = some o → h'.get? b = some o) → h'.get? s.heap.objs.size = some { cls := .type "list", dict := none, data := .seq acc c', slots := #[] } → ItemsOf (fun i v => items[items.size - 1 - i]? = some v) acc items.size →
      Q (.ref s.heap.objs.size) { s with heap := h', toks := tk }) :
    wpAny (model prog w) A (call (.type "list") [.ref it]) Q E s := by
  refine callType_codes (Q₁ := fun obj s₁ => obj = .ref s.heap.objs.size ∧ s₁ = { s with heap := s.heap.push { cls := .type "list", data := .seq #[] } }) PySem.F.called_list (PySem.F.typeCall_list_1 _) PySem.F.entry_list_init
    (PySem.code_list_new _ ⟨rfl, rfl⟩) fun obj s₁ h₁ => ?_
  obtain ⟨rfl, rfl⟩ := h₁
  have hS : (s.heap.push { cls := .type "list", data := .seq #[] }).get? s.heap.objs.size = some { cls := .type "list", data := .seq #[] } := Heap.get?_push_size _ rfl
  obtain ⟨oi, hoi, _⟩ := id hit
  obtain ⟨ol, hol, _⟩ := id hl
  refine ⟨⟨_, hS, rfl⟩, PySem.F.args_list_init_2 _ _, init_rev (A := A.in1) hh (hit.at fun o e => Heap.get?_push_of_some _ e) (hl.push _) hne hn (Nat.ne_of_gt (Heap.lt_size hoi)) (Nat.ne_of_gt (Heap.lt_size hol)) hS (fun h' tk acc' c' hk hS' hacc => ?_)⟩
  exact ⟨rfl, hQ h' tk acc' c' (fun b o hb e => hk b o (Nat.ne_of_lt (Heap.lt_size e)) hb (Heap.get?_push_of_some _ e)) hS' hacc⟩
end
end RT
namespace Rg
open PySem PySem.Spec PyProof.Rows L2
section
variable {X : Cx} {pos : Pos}
/-- list(reversed(x)), x a list: a new list -/
def tLstRev (K : PySem.W.Frag) (te : TE) : TE := fun σ H Q => te σ H fun v H1 => ∃ (a : Addr) (xs : List V), v = .ref a ∧ SqL K H1 a xs ∧ ∀ q, H1 q = none → Q (.ref q) (upd H1 q (.lst xs.reverse))
theorem pe_lstRev {e : Expr} {te : TE} {p p2 pos2 : Pos} (hc : X.calm = true) (hg : Gl X "list") (hm : X.mg "list" = none) (hg2 : Gl X "reversed") (hm2 : X.mg "reversed" = none) (he : PE X e te)
    (hs : starEach [e] X.env = (false, eval e X.env) :: starEach [] X.env)
    (hs2 : starEach [.Call (.Name "reversed" p2) [e] [] pos2] X.env = (false, eval (.Call (.Name "reversed" p2) [e] [] pos2) X.env) :: starEach [] X.env := by rfl) :
    PE X (.Call (.Name "list" p) [.Call (.Name "reversed" p2) [e] [] pos2] [] pos) (tLstRev X.K te) := by
  refine ⟨fun pins s σ H Q I h => ?_⟩
  refine Call_ (ld_blt I hg hm boot_list (PyProof.Rows.callWith_type1 (args_cons (Call_ (ld_blt I hg2 hm2 PyProof.Rows.boot_reversed (PyProof.Rows.callWith_type1 (args_cons (thn (he.run pins s σ H _ I h) fun u s1 ⟨v, H1, I1, r1, q1⟩ => args_nil ?_) hs) hs rfl))) hs2) hs2 rfl))
  obtain ⟨a, xs, ev, hq, q⟩ := q1
  subst ev
  obtain rfl : u = Value.ref a := r1
  obtain ⟨its, rv, p', hz⟩ := I1.list hq
  refine call_reversed_list p'.isList (args_nil ?_)
  have k0 : ∀ b o, s1.heap.get? b = some o → (s1.heap.push (revObj a ((its.toArray.size : Int) - 1))).get? b = some o := fun b o e => Heap.get?_push_of_some _ e
  have I2 : Inv X pins σ H1 { s1 with heap := s1.heap.push (revObj a ((its.toArray.size : Int) - 1)) } := I1.kept (t' := s1.toks) k0
  obtain ⟨f0, f1, f2, f3, f4, f5⟩ := I1.fpOk (H' := H1) (b := s1.heap.objs.size) (Nat.le_refl _) (I1.hok.fresh (Nat.le_refl _))
  have hl := p'.isList
  obtain ⟨ol, hol, _⟩ := id hl
  have hne : a ≠ s1.heap.objs.size := Nat.ne_of_lt (Heap.lt_size hol)
  have hn : its.toArray.size ≤ sizeLine := by rw [List.size_toArray, ← rv.length]; exact hz
  have hsz : (s1.heap.push (revObj a ((its.toArray.size : Int) - 1))).objs.size = s1.heap.objs.size + 1 := Heap.size_push ..
  refine RT.call_list_rev (s := { s1 with heap := s1.heap.push (revObj a ((its.toArray.size : Int) - 1)) }) (I1.ok.hd hc) ⟨_, Heap.get?_push_size _ rfl, rfl, rfl⟩ (hl.push _) hne hn fun h' tk acc c' hk hS hi => ?_
  have kk : ∀ b o, s1.heap.get? b = some o → h'.get? b = some o := fun b o e => hk b o (Nat.ne_of_lt (Heap.lt_size e)) (Heap.get?_push_of_some _ e)
  refine ⟨.ref _, upd H1 _ (.lst xs.reverse), I1.laid (t' := tk) kk (Nat.le_of_lt (by show s1.heap.objs.size < (s1.heap.push (revObj a ((its.toArray.size : Int) - 1))).objs.size; rw [hsz]; exact Nat.lt_succ_self _)) (show ObjOk X.prog X.w _ _ _ (.lst xs.reverse) from ⟨by rw [List.length_reverse]; exact hz, acc.toList, c', RT.vals_rev rv hi, ?_⟩), rfl, q _ (I1.hok.fresh ?_)⟩
  · rw [Array.toArray_toList]; exact hS
  · exact Nat.le_of_lt (by show s1.heap.objs.size < (s1.heap.push (revObj a ((its.toArray.size : Int) - 1))).objs.size; rw [hsz]; exact Nat.lt_succ_self _)
/-- a method of an object of a type that is known otherwise -/
theorem pe_bmI {T id : String} {name : Str} {r : V → List V → Hp → VK → Prop} {o e : Expr} {es : List Expr} {to : TE} {t : TA} {apos cpos : Pos} (ty : V → Hp → Prop) (pa : PlainAttrs T) (slot : Slot T name id) (hty : typeOf (.builtin id) = pure (.type "method_descriptor")) (hm : MtR X id r) (ho : PE X o to) (ha : PA X (e :: es) t)
    (hT : ∀ (pins : List (Addr × Obj)) (s : Shared) (σ : L2.St) (H : Hp) (x : V) (v : Value), Inv X pins σ H s → RelV x v → ty x H → s.TypeIs v T ∧ ∀ a, v = .ref a → ∃ ob, s.heap.get? a = some ob ∧ ob.dict = none)
    (hbase : attributeBase o name X.env (eval o X.env) = eval o X.env)
    (hfew : ((backTo cpos (starEach (e :: es) X.env)).all (fun x => !x.1) && (backToKw cpos (keywordEach [] X.env)).all (fun x => x.1.isSome)
      && decide ((e :: es).length + ([] : List Keyword).length + (if ([] : List Keyword).isEmpty then 0 else 1) < 30)) = true)
    (hline : (apos.endLine == cpos.line) = true) (hs : starEach (e :: es) X.env = (false, eval e X.env) :: starEach es X.env) (hplain : (backTo cpos (starEach es X.env)).any (·.1) = false) :
    PE X (.Call (.Attribute o name apos) (e :: es) [] cpos) (fun σ H Q => to σ H fun x H1 => ty x H1 ∧ t σ H1 fun vs H2 => r x vs H2 Q) := by
  refine ⟨fun pins s σ H Q I h => ?_⟩
  refine wpAny_Call_method_late hbase hfew hline rfl (thn (ho.run pins s σ H _ I h) fun v s1 ⟨x, H1, I1, r1, tyx, q1⟩ => ?_)
  obtain ⟨h1, h2⟩ := hT pins s1 σ H1 x v I1 r1 tyx
  refine ⟨T, id, pa, slot, hty, h1, h2, ?_⟩
  have hA := ha.run cpos pins s1 σ H1 _ I1 q1
  rw [hs] at hA ⊢
  refine Calls.callWith_builtin (by show (false || (backTo cpos (starEach es X.env)).any (·.1)) = false; rw [hplain] <;> rfl) (Calls.evalArgs_plain ?_)
  exact thn hA fun us s2 ⟨vs, H2, I2, r2, q2⟩ => hm pins s2 σ H2 x vs v us Q I2 r1 r2 q2
end
section
variable {pg : Pg} {k : Nat} {N : List Str} {XC : XCT} {sc : Scope} {X : Cx} {W : WX} {pos : Pos}
theorem s_dnewN : PE X (.Dict [] [] pos) (rdE X.K XC W pg k .dnewN) := by
  refine PE.imp pe_dnewN fun σ H Q hq => ?_
  obtain ⟨B, μ, h0, ρ, rl, sl, p⟩ := hq
  simp only [evE] at p
  exact fun q hq hs => p _ (μ ++ [q]) _ (.newCell hq) (rl.newDcN hq hs) (Step.newRef rl)
/-- a new list, plain or a cell -/
theorem new_list {K : PySem.W.Frag} [Wd K] {B μ : List Addr} {h : MH} {H : Hp} {σ : L2.St} {Q : VK} {m : Bool} {l : List PV} {vs : List V} (rl : Rel K B μ h H) (t : Reps K B μ H l vs)
    (p : PostG K B XC W σ (Rep K B) Q (if m = true then .ok (.ref h.length, h ++ [.lst l]) else .ok (.lst l, h)) μ H) : ∀ q, H q = none → Q (.ref q) (upd H q (.lst vs)) := fun q hq => by
  cases m with
  | true =>
    rw [if_pos rfl] at p
    exact p _ (μ ++ [q]) _ (.newCell hq) (rl.newCell hq t) (Step.newRef rl)
  | false =>
    rw [if_neg Bool.false_ne_true] at p
    exact p _ μ _ (.new hq) (rl.new hq) (.newLst rl hq t)
theorem reps_rg (K : PySem.W.Frag) [Wd K] (B μ : List Addr) (H : Hp) (i : Int) : ∀ l : List Nat, Reps K B μ H (l.map fun k => PV.int (i + (k : Nat))) (l.map fun k => V.int (i + (k : Nat)))
  | [] => .nil
  | _ :: r => .cons .int (reps_rg K B μ H i r)
theorem Reps.reverse {K : PySem.W.Frag} [Wd K] {B μ : List Addr} {H : Hp} : ∀ {l : List PV} {vs : List V}, Reps K B μ H l vs → Reps K B μ H l.reverse vs.reverse
  | [], vs, t => by rw [t.nil_inv]; exact .nil
  | p :: l, vs, t => by
    obtain ⟨v, w, rfl, h1, t⟩ := t.cons_inv
    rw [List.reverse_cons, List.reverse_cons]
    exact (Reps.reverse t).append (.cons h1 .nil)
theorem spcop_ex {f : Spf} {vs : List PV} {h : MH} {c : Str} {h' : MH} : spcop f vs h ≠ .error (.exc c h') := by
  unfold spcop; (repeat' split) <;> (intro z; cases z)
theorem spc_at {h : MH} {m : Bool} {f : Spf} {K : PySem.W.Frag} [Wd K] {B μ : List Addr} {H : Hp} {σ : L2.St} {Q : VK} {vs : List PV}
    (p : PostG K B XC W σ (Rep K B) Q (bnd (spcop f vs h) fun l => if m = true then .ok (.ref h.length, h ++ [.lst l]) else .ok (.lst l, h)) μ H) :
    ∃ l, spcop f vs h = .ok l ∧ PostG K B XC W σ (Rep K B) Q (if m = true then .ok (.ref h.length, h ++ [.lst l]) else .ok (.lst l, h)) μ H := by
  cases e : spcop f vs h with
  | ok l => rw [e] at p; exact ⟨l, rfl, p⟩
  | error er =>
    rw [e] at p
    cases er with
    | stuck => exact p.elim
    | exc c h' => exact absurd e spcop_ex
theorem s_spc_copy {m : Bool} {e : E} {x : Expr} {p : Pos} (G : Good pg k N XC sc X) (hg : glB sc "list" = true) (ih : PE X x (rdE X.K XC W pg k e)) (hp : plainHd x = true) : PE X (.Call (.Name "list" p) [x] [] pos) (rdE X.K XC W pg k (.spc1 m .copy e)) := by
  obtain ⟨g1, g2, g3⟩ := G.glob hg
  refine PE.imp (pe_callTy call_list_of g1 (G.bmg (by decide +kernel)) boot_list (pa_cons ih pa_nil (plain_star hp _ _)) g3 g2 (plain_star hp _ _) rfl) fun σ H Q hq => ?_
  obtain ⟨B, μ, h0, ρ, rl, sl, q⟩ := hq
  simp only [evE] at q
  refine ⟨B, μ, h0, ρ, rl, sl, q.bnd fun v h1 y μ1 H1 e1 st1 rl1 rp1 p1 => ?_⟩
  obtain ⟨l, el, q1⟩ := spc_at p1
  simp only [spcop] at el
  split at el
  · rename_i l' hl
    cases el
    obtain ⟨a, vs, rfl, hs, t⟩ := sview_ok rl1 rp1 hl
    exact ⟨a, vs, rfl, hs, new_list rl1 t q1⟩
  · cases el
theorem s_spc_rev {m : Bool} {e : E} {x : Expr} {p p2 pos2 : Pos} (G : Good pg k N XC sc X) (hg : glB sc "list" = true) (hg2 : glB sc "reversed" = true) (ih : PE X x (rdE X.K XC W pg k e)) (hp : plainHd x = true) :
    PE X (.Call (.Name "list" p) [.Call (.Name "reversed" p2) [x] [] pos2] [] pos) (rdE X.K XC W pg k (.spc1 m .rev e)) := by
  obtain ⟨g1, g2, g3⟩ := G.glob hg
  obtain ⟨k1, k2, k3⟩ := G.glob hg2
  refine PE.imp (pe_lstRev G.calm g1 (G.bmg (by decide +kernel)) k1 (G.bmg (by decide +kernel)) ih (plain_star hp _ _)) fun σ H Q hq => ?_
  obtain ⟨B, μ, h0, ρ, rl, sl, q⟩ := hq
  simp only [evE] at q
  refine ⟨B, μ, h0, ρ, rl, sl, q.bnd fun v h1 y μ1 H1 e1 st1 rl1 rp1 p1 => ?_⟩
  obtain ⟨l, el, q1⟩ := spc_at p1
  simp only [spcop] at el
  split at el
  · rename_i l' hl
    cases el
    obtain ⟨a, vs, rfl, hs, t⟩ := lview_ok rl1 rp1 hl
    exact ⟨a, vs, rfl, hs, new_list rl1 (Reps.reverse t) q1⟩
  · cases el
theorem s_spc_rng1 {m : Bool} {e : E} {x : Expr} {p p2 pos2 : Pos} (G : Good pg k N XC sc X) (hg : glB sc "list" = true) (hg2 : glB sc "range" = true) (ih : PE X x (rdE X.K XC W pg k e)) (hp : plainHd x = true) :
    PE X (.Call (.Name "list" p) [.Call (.Name "range" p2) [x] [] pos2] [] pos) (rdE X.K XC W pg k (.spc1 m .rng1 e)) := by
  obtain ⟨g1, g2, g3⟩ := G.glob hg
  obtain ⟨k1, k2, k3⟩ := G.glob hg2
  refine PE.imp (pe_listRg G.calm g1 (G.bmg (by decide +kernel)) (prg_1 k1 (G.bmg (by decide +kernel)) ih (plain_star hp _ _))) fun σ H Q hq => ?_
  obtain ⟨B, μ, h0, ρ, rl, sl, q⟩ := hq
  simp only [evE] at q
  refine ⟨B, μ, h0, ρ, rl, sl, q.bnd fun v h1 y μ1 H1 e1 st1 rl1 rp1 p1 => ?_⟩
  obtain ⟨l, el, q1⟩ := spc_at p1
  cases v with
  | int j =>
    simp only [spcop] at el
    split at el
    · rename_i hj
      cases el
      refine ⟨j, Rep.int_iff.mp rp1, ⟨by omega, by omega, by omega, by omega, by omega⟩, ?_⟩
      exact new_list (vs := rgV 0 j) rl1 (by
          have := reps_rg X.K B μ1 H1 0 (List.range (j - 0).toNat)
          simpa only [Int.zero_add, Int.sub_zero, rgV] using this) q1
    · cases el
  | _ => simp only [spcop] at el; cases el
theorem s_spc_rng2 {m : Bool} {a b : E} {x y : Expr} {p p2 pos2 : Pos} (G : Good pg k N XC sc X) (hg : glB sc "list" = true) (hg2 : glB sc "range" = true) (iha : PE X x (rdE X.K XC W pg k a)) (ihb : PE X y (rdE X.K XC W pg k b)) (hp : plainHd x = true) (hp2 : plainHd y = true) :
    PE X (.Call (.Name "list" p) [.Call (.Name "range" p2) [x, y] [] pos2] [] pos) (rdE X.K XC W pg k (.spc2 m a b)) := by
  obtain ⟨g1, g2, g3⟩ := G.glob hg
  obtain ⟨k1, k2, k3⟩ := G.glob hg2
  refine PE.imp (pe_listRg G.calm g1 (G.bmg (by decide +kernel)) (prg_2 k1 (G.bmg (by decide +kernel)) iha ihb (plain_star hp _ _) (plain_star hp2 _ _) (by rw [plain_star hp2]; rfl))) fun σ H Q hq => ?_
  obtain ⟨B, μ, h0, ρ, rl, sl, q⟩ := hq
  simp only [evE] at q
  refine ⟨B, μ, h0, ρ, rl, sl, q.bnd fun v h1 y μ1 H1 e1 st1 rl1 rp1 p1 => ?_⟩
  refine ⟨B, μ1, h1, ρ, rl1, sl.step st1, p1.bnd fun v2 h2 y2 μ2 H2 e2 st2 rl2 rp2 p2 => ?_⟩
  obtain ⟨l, el, q1⟩ := spc_at p2
  cases v with
  | int i =>
   cases v2 with
   | int j =>
    simp only [spcop] at el
    split at el
    · rename_i hj
      cases el
      refine ⟨i, j, Rep.int_iff.mp (rp1.step st2), Rep.int_iff.mp rp2, ⟨by omega, by omega, by omega, by omega, by omega⟩, ?_⟩
      exact new_list (vs := rgV i j) rl2 (reps_rg X.K B μ2 H2 i (List.range (j - i).toNat)) q1
    · cases el
   | _ => simp only [spcop] at el; cases el
  | _ => simp only [spcop] at el; cases el
theorem getopN_ex {o : PV} {vs : List PV} {h : MH} {c : Str} {h' : MH} : getopN o vs h ≠ .error (.exc c h') := by
  unfold getopN; (repeat' split) <;> (intro z; cases z)
def rGN (K : PySem.W.Frag) [Wd K] : V → List V → Hp → VK → Prop := fun x xs H Q => ∃ B μ h o vs w, Rel K B μ h H ∧ Rep K B μ H o x ∧ Reps K B μ H vs xs ∧ getopN o vs h = .ok w ∧ ∀ z μ' H', Step μ H μ' H' → Rel K B μ' h H' → Rep K B μ' H' w z → Q z H'
theorem mt_gN (hu : X.A.units + 64 < cLine) : MtR X "dict.get" (rGN X.K) := by
  intro pins s σ H x xs v us Q I rx rv hh
  obtain ⟨B, μ, h, o, vs, w, rl, ro, rp, e, q⟩ := hh
  unfold getopN at e
  split at e
  · rename_i l y hl
    split at e
    · rename_i k hk
      cases e
      obtain ⟨n, ad, es, ws, _, rfl, _, _, hH, h2, h3, h4, h5, h6⟩ := nview_ok rl ro hl
      obtain rfl : v = Value.ref ad := rx
      obtain ⟨y', rfl, r1⟩ := rp.one
      obtain ⟨u, rfl, ru⟩ := vals1 rv
      obtain ⟨b', ex, eu, kk⟩ := nk_key I r1 hk ru
      subst ex eu
      refine n_get1 hu I h2.1 (dictN I hH (by rw [h3.1]; exact h3.2) h4) kk fun s' I' => ?_
      rcases n_at (k := k) h3.1 h5 h6 with ⟨z1, z2⟩ | ⟨p, v', q', z1, z2, z3, z4⟩
      · rw [z2]; rw [z1] at q; exact ⟨.non, H, I', rfl, q _ μ H .refl rl .non⟩
      · rw [z2]; rw [z1] at q; exact ⟨v', H, I', z3, q _ μ H .refl rl z4⟩
    · cases e
  · rename_i l y d hl
    split at e
    · rename_i k hk
      cases e
      obtain ⟨n, ad, es, ws, _, rfl, _, _, hH, h2, h3, h4, h5, h6⟩ := nview_ok rl ro hl
      obtain rfl : v = Value.ref ad := rx
      obtain ⟨y', d', rfl, r1, r2⟩ := rp.two
      obtain ⟨u1, u2, rfl, ru, rd⟩ := vals2 rv
      obtain ⟨b', ex, eu, kk⟩ := nk_key I r1 hk ru
      subst ex eu
      refine n_get2 hu I h2.1 (dictN I hH (by rw [h3.1]; exact h3.2) h4) kk fun s' I' => ?_
      rcases n_at (k := k) h3.1 h5 h6 with ⟨z1, z2⟩ | ⟨p, v', q', z1, z2, z3, z4⟩
      · rw [z2]; rw [z1] at q; exact ⟨d', H, I', rd, q _ μ H .refl rl r2⟩
      · rw [z2]; rw [z1] at q; exact ⟨v', H, I', z3, q _ μ H .refl rl z4⟩
    · cases e
  · cases e
/-- x is such a dict -/
def tyN (K : PySem.W.Frag) [Wd K] : V → Hp → Prop := fun x H => ∃ a xs, x = .ref a ∧ H a = some (.ext (RawN K a xs))
theorem tyN_ok (pins : List (Addr × Obj)) (s : Shared) (σ : L2.St) (H : Hp) (x : V) (v : Value) (I : Inv X pins σ H s) (r : RelV x v) (t : tyN X.K x H) : s.TypeIs v "dict" ∧ ∀ a, v = .ref a → ∃ ob, s.heap.get? a = some ob ∧ ob.dict = none := by
  obtain ⟨a, xs, rfl, e⟩ := t
  obtain rfl : v = .ref a := r
  obtain ⟨o, es, ep, h1, h2, _⟩ := rawN_of I e
  refine ⟨⟨o, h1, h2.1⟩, fun b q => ?_⟩
  cases q
  exact ⟨o, h1, h2.2.1⟩
theorem s_getN {o : E} {es : Es} {ox x : Expr} {xs : List Expr} {apos : Pos} (hu : X.A.units + 64 < cLine) (ih : PE X ox (rdE X.K XC W pg k o)) (ihs : PA X (x :: xs) (rdEs X.K XC W pg k es)) (hp : (x :: xs).all plainHd = true) (hl : xs.length < 9) (ha : attrHd ox = true) (hline : (apos.endLine == pos.line) = true) :
    PE X (.Call (.Attribute ox "get" apos) (x :: xs) [] pos) (rdE X.K XC W pg k (.getN o es)) := by
  obtain ⟨h1, h2⟩ := fst_any hp
  have hfew : ((backTo pos (starEach (x :: xs) X.env)).all (fun x => !x.1) && (backToKw pos (keywordEach [] X.env)).all (fun x => x.1.isSome)
    && decide ((x :: xs).length + ([] : List Keyword).length + (if ([] : List Keyword).isEmpty then 0 else 1) < 30)) = true := by
    have := few_ok hp (by simp; omega) pos X.env
    exact this
  refine PE.imp (pe_bmI (tyN X.K) PySem.F.plainAttrs_dict PySem.F.slot_dict_get PySem.F.type_dict_get (mt_gN hu) ih ihs tyN_ok (attr_base ha _ _ _) hfew hline (plain_star h1 _ _) (plain_any h2)) fun σ H Q hq => ?_
  obtain ⟨B, μ, h0, ρ, rl, sl, p⟩ := hq
  simp only [evE] at p
  refine ⟨B, μ, h0, ρ, rl, sl, p.bnd fun v h1 x1 μ1 H1 e1 st1 rl1 rp1 p1 => ?_⟩
  split at p1
  · rename_i hv
    obtain ⟨l0, el0⟩ := Option.isSome_iff_exists.mp hv
    obtain ⟨n, a, es', ws, _, rfl, _, _, hH1, _⟩ := nview_ok rl1 rp1 el0
    refine ⟨⟨a, es', rfl, hH1⟩, B, μ1, h1, ρ, rl1, sl.step st1, p1.bnd fun vs h2 ys μ2 H2 e2 st2 rl2 rp2 p2 => ?_⟩
    obtain ⟨w, ew, q⟩ := p2.fin fun c h' => getopN_ex
    exact ⟨B, μ2, h2, v, vs, w, rl2, rp1.step st2, rp2, ew, q⟩
  · exact p1.elim
theorem sthop_ex {f : Sf} {o : PV} {vs : List PV} {h : MH} {c : Str} {h' : MH} : sthop f o vs h ≠ .error (.exc c h') := by
  unfold sthop; (repeat' split) <;> (intro z; cases z)
theorem good_ok {s : Str} (h : goodS s = true) : s.length ≤ big ∧ PyData.strOk s = true := by
  simp only [goodS, Bool.and_eq_true, decide_eq_true_eq] at h
  exact h
theorem rep_good {K : PySem.W.Frag} [Wd K] {B μ : List Addr} {H : Hp} {s : Str} (h : goodS s = true) : Rep K B μ H (.str s) (.str s) := Rep.str_iff.mpr ⟨rfl, good_ok h⟩
theorem reps_good {K : PySem.W.Frag} [Wd K] {B μ : List Addr} {H : Hp} : ∀ {l : List Str}, l.all goodS = true → Reps K B μ H (l.map .str) (l.map V.str)
  | [], _ => .nil
  | s :: l, h => by
    rw [List.all_cons, Bool.and_eq_true] at h
    exact .cons (rep_good h.1) (reps_good h.2)
theorem strsP_reps {K : PySem.W.Frag} [Wd K] {B μ : List Addr} {H : Hp} : ∀ {l : List PV} {ys : List Str} {vs : List V}, strsP l = some ys → Reps K B μ H l vs → vs = ys.map V.str
  | [], _, _, e, t => by simp only [strsP, Option.some.injEq] at e; subst e; rw [t.nil_inv]; rfl
  | .str i :: r, ns, vs, e, t => by
    simp only [strsP] at e
    split at e
    · rename_i m hm
      cases e
      obtain ⟨v, w, rfl, h1, t⟩ := t.cons_inv
      rw [(Rep.str_iff.mp h1).1, strsP_reps hm t]
      rfl
    · cases e
  | .non :: _, _, _, e, _ => by simp only [strsP] at e; cases e
  | .bl _ :: _, _, _, e, _ => by simp only [strsP] at e; cases e
  | .int _ :: _, _, _, e, _ => by simp only [strsP] at e; cases e
  | .tup _ :: _, _, _, e, _ => by simp only [strsP] at e; cases e
  | .lst _ :: _, _, _, e, _ => by simp only [strsP] at e; cases e
  | .ref _ :: _, _, _, e, _ => by simp only [strsP] at e; cases e
def rSt (K : PySem.W.Frag) [Wd K] (f : Sf) : V → List V → Hp → VK → Prop := fun x xs H Q => ∃ B μ h a vs w, Rel K B μ h H ∧ x = .str a ∧ (a.length ≤ big ∧ PyData.strOk a = true) ∧ Reps K B μ H vs xs ∧ sthop f (.str a) vs h = .ok w ∧ ∀ z μ' H', Step μ H μ' H' → Rel K B μ' h H' → Rep K B μ' H' w z → Q z H'
theorem st_find : MtR X "str.find" (rSt X.K .find) := by
  intro pins s σ H x xs v us Q I rx rv hh
  obtain ⟨B, μ, h, a, vs, w, rl, rfl, ra, rp, e, q⟩ := hh
  simp only [sthop] at e
  split at e
  · cases e
    obtain ⟨y, rfl, r1⟩ := rp.one
    rw [(Rep.str_iff.mp r1).1] at rv
    exact mt_find pins s σ H _ _ v us Q I rx rv ⟨a, _, rfl, rfl, q _ μ H .refl rl .int⟩
  · cases e
theorem st_strip : MtR X "str.strip" (rSt X.K .strip) := by
  intro pins s σ H x xs v us Q I rx rv hh
  obtain ⟨B, μ, h, a, vs, w, rl, rfl, ra, rp, e, q⟩ := hh
  have hb : big ≤ sizeLine := big_le
  simp only [sthop] at e
  split at e
  · split at e
    · rename_i hg
      cases e
      obtain ⟨y, rfl, r1⟩ := rp.one
      rw [(Rep.str_iff.mp r1).1] at rv
      exact mt_stripChars pins s σ H _ _ v us Q I rx rv ⟨a, _, rfl, rfl, Nat.le_trans ra.1 hb, q _ μ H .refl rl (rep_good hg)⟩
    · cases e
  · cases e
theorem st_join : MtR X "str.join" (rSt X.K .join) := by
  intro pins s σ H x xs v us Q I rx rv hh
  obtain ⟨B, μ, h, a, vs, w, rl, rfl, ra, rp, e, q⟩ := hh
  have hb : big ≤ 16777216 := by decide
  simp only [sthop] at e
  split at e
  · split at e
    · rename_i l hl
      split at e
      · rename_i ys hy
        split at e
        · rename_i hg
          cases e
          obtain ⟨y, rfl, r1⟩ := rp.one
          obtain ⟨p, ws, rfl, hs, t⟩ := sview_ok rl r1 hl
          have z := strsP_reps hy t
          subst z
          exact mt_join pins s σ H _ _ v us Q I rx rv ⟨a, p, ys, rfl, rfl, hs, Nat.le_trans hg.1 hb, q _ μ H .refl rl (rep_good hg.2)⟩
        · cases e
      · cases e
    · cases e
  · cases e
theorem st_split : MtR X "str.split" (rSt X.K .split) := by
  intro pins s σ H x xs v us Q I rx rv hh
  obtain ⟨B, μ, h, a, vs, w, rl, rfl, ra, rp, e, q⟩ := hh
  have hb : big ≤ sizeLine := big_le
  simp only [sthop] at e
  split at e
  · split at e
    · rename_i hg
      cases e
      obtain ⟨y, rfl, r1⟩ := rp.one
      rw [(Rep.str_iff.mp r1).1] at rv
      exact mt_split pins s σ H _ _ v us Q I rx rv ⟨a, _, rfl, rfl, hg.1, Nat.le_trans hg.2.1 hb, fun p hp => q _ μ _ (.new hp) (rl.new hp) (.newLst rl hp (reps_good hg.2.2))⟩
    · cases e
  · cases e
theorem st_partition : MtR X "str.partition" (rSt X.K .partition) := by
  intro pins s σ H x xs v us Q I rx rv hh
  obtain ⟨B, μ, h, a, vs, w, rl, rfl, ra, rp, e, q⟩ := hh
  have hb : big ≤ sizeLine := big_le
  simp only [sthop] at e
  split at e
  · split at e
    · rename_i hg
      cases e
      obtain ⟨y, rfl, r1⟩ := rp.one
      rw [(Rep.str_iff.mp r1).1] at rv
      exact mt_partition pins s σ H _ _ v us Q I rx rv ⟨a, _, rfl, rfl, hg.1, Nat.le_trans ra.1 hb, fun p hp => q _ μ _ (.new hp) (rl.new hp) (.newTup rl hp (.cons (rep_good hg.2.1) (.cons (rep_good hg.2.2.1) (.cons (rep_good hg.2.2.2) .nil))))⟩
    · cases e
  · cases e
theorem st_upper : MtR X "str.upper" (rSt X.K .upper) := by
  intro pins s σ H x xs v us Q I rx rv hh
  obtain ⟨B, μ, h, a, vs, w, rl, rfl, ra, rp, e, q⟩ := hh
  simp only [sthop] at e
  split at e
  · split at e
    · rename_i hg
      cases e
      rw [rp.nil_inv] at rv
      exact mt_upper pins s σ H _ _ v us Q I rx rv ⟨a, rfl, rfl, by omega, q _ μ H .refl rl (rep_good hg.2)⟩
    · cases e
  · cases e
theorem st_isdigit : MtR X "str.isdigit" (rSt X.K .isdigit) := by
  intro pins s σ H x xs v us Q I rx rv hh
  obtain ⟨B, μ, h, a, vs, w, rl, rfl, ra, rp, e, q⟩ := hh
  simp only [sthop] at e
  split at e
  · cases e
    rw [rp.nil_inv] at rv
    exact mt_isdigit pins s σ H _ _ v us Q I rx rv ⟨a, rfl, rfl, trivial, q _ μ H .refl rl .bl⟩
  · cases e
/-- what the reading of such a call asks -/
theorem sth_at {f : Sf} {o : E} {es : Es} {σ : L2.St} {H : Hp} {Q : VK} (hq : rdE X.K XC W pg k (.sth f o es) σ H Q) :
    rdE X.K XC W pg k o σ H fun x H1 => (∃ a, x = .str a) ∧ rdEs X.K XC W pg k es σ H1 fun xs H2 => rSt X.K f x xs H2 Q := by
  obtain ⟨B, μ, h0, ρ, rl, sl, p⟩ := hq
  simp only [evE] at p
  refine ⟨B, μ, h0, ρ, rl, sl, p.bnd fun v h1 x1 μ1 H1 e1 st1 rl1 rp1 p1 => ?_⟩
  cases v with
  | str a =>
    obtain ⟨rfl, g⟩ := Rep.str_iff.mp rp1
    refine ⟨⟨a, rfl⟩, B, μ1, h1, ρ, rl1, sl.step st1, p1.bnd fun vs h2 ys μ2 H2 e2 st2 rl2 rp2 p2 => ?_⟩
    obtain ⟨w, ew, q⟩ := p2.fin fun c h' => sthop_ex
    exact ⟨B, μ2, h2, a, vs, w, rl2, rfl, g, rp2, ew, q⟩
  | _ => exact p1.elim
theorem s_sth {f : Sf} {o : E} {es : Es} {ox : Expr} {xs : List Expr} {apos : Pos} (ih : PE X ox (rdE X.K XC W pg k o)) (ihs : PA X xs (rdEs X.K XC W pg k es)) (hp : xs.all plainHd = true) (hn : xs.length = sfAr f) (hes : xs = [] → es = .nil) (ha : recvHd ox = true) (hline : (apos.endLine == pos.line) = true) :
    PE X (.Call (.Attribute ox (sfName f) apos) xs [] pos) (rdE X.K XC W pg k (.sth f o es)) := by
  have one : ∀ {y : Expr}, xs = [y] → plainHd y = true ∧ ((backTo pos (starEach [y] X.env)).all (fun x => !x.1) && (backToKw pos (keywordEach [] X.env)).all (fun x => x.1.isSome)
        && decide ([y].length + ([] : List Keyword).length + (if ([] : List Keyword).isEmpty then 0 else 1) < 30)) = true := fun {y} e => by
    subst e
    obtain ⟨h1, h2⟩ := fst_any hp
    exact ⟨h1, by rw [plain_star h1]; rfl⟩
  have tyS : ∀ {x : V} {H : Hp}, (∃ a, x = .str a) → tyV X.K "str" x H := fun {x H} h => by obtain ⟨a, rfl⟩ := h; exact rfl
  have go : ∀ {y : Expr}, xs = [y] → plainHd y = true := fun e => (one e).1
  cases f with
  | find =>
    match xs, hn with
    | [y], _ =>
      obtain ⟨h1, hfew⟩ := one rfl
      refine PE.imp (pe_bm PySem.F.plainAttrs_str PySem.F.slot_str_find PySem.F.type_str_find st_find ih ihs (recv_base ha _ _ _) hfew hline (plain_star h1 _ _) rfl) fun σ H Q hq => ?_
      obtain ⟨B, μ, h0, ρ, rl, sl, p⟩ := sth_at hq
      exact ⟨B, μ, h0, ρ, rl, sl, p.imp fun x H' z => ⟨tyS z.1, z.2⟩⟩
  | strip =>
    match xs, hn with
    | [y], _ =>
      obtain ⟨h1, hfew⟩ := one rfl
      refine PE.imp (pe_bm PySem.F.plainAttrs_str PySem.F.slot_str_strip PySem.F.type_str_strip st_strip ih ihs (recv_base ha _ _ _) hfew hline (plain_star h1 _ _) rfl) fun σ H Q hq => ?_
      obtain ⟨B, μ, h0, ρ, rl, sl, p⟩ := sth_at hq
      exact ⟨B, μ, h0, ρ, rl, sl, p.imp fun x H' z => ⟨tyS z.1, z.2⟩⟩
  | join =>
    match xs, hn with
    | [y], _ =>
      obtain ⟨h1, hfew⟩ := one rfl
      refine PE.imp (pe_bm PySem.F.plainAttrs_str PySem.F.slot_str_join PySem.F.type_str_join st_join ih ihs (recv_base ha _ _ _) hfew hline (plain_star h1 _ _) rfl) fun σ H Q hq => ?_
      obtain ⟨B, μ, h0, ρ, rl, sl, p⟩ := sth_at hq
      exact ⟨B, μ, h0, ρ, rl, sl, p.imp fun x H' z => ⟨tyS z.1, z.2⟩⟩
  | split =>
    match xs, hn with
    | [y], _ =>
      obtain ⟨h1, hfew⟩ := one rfl
      refine PE.imp (pe_bm PySem.F.plainAttrs_str PySem.F.slot_str_split PySem.F.type_str_split st_split ih ihs (recv_base ha _ _ _) hfew hline (plain_star h1 _ _) rfl) fun σ H Q hq => ?_
      obtain ⟨B, μ, h0, ρ, rl, sl, p⟩ := sth_at hq
      exact ⟨B, μ, h0, ρ, rl, sl, p.imp fun x H' z => ⟨tyS z.1, z.2⟩⟩
  | partition =>
    match xs, hn with
    | [y], _ =>
      obtain ⟨h1, hfew⟩ := one rfl
      refine PE.imp (pe_bm PySem.F.plainAttrs_str PySem.F.slot_str_partition PySem.F.type_str_partition st_partition ih ihs (recv_base ha _ _ _) hfew hline (plain_star h1 _ _) rfl) fun σ H Q hq => ?_
      obtain ⟨B, μ, h0, ρ, rl, sl, p⟩ := sth_at hq
      exact ⟨B, μ, h0, ρ, rl, sl, p.imp fun x H' z => ⟨tyS z.1, z.2⟩⟩
  | upper =>
    match xs, hn with
    | [], _ =>
      have e0 : es = .nil := hes rfl
      subst e0
      refine PE.imp (pe_bm0 PySem.F.plainAttrs_str PySem.F.slot_str_upper PySem.F.type_str_upper st_upper ih (recv_base ha _ _ _) hline) fun σ H Q hq => ?_
      obtain ⟨B, μ, h0, ρ, rl, sl, p⟩ := sth_at hq
      refine ⟨B, μ, h0, ρ, rl, sl, p.imp fun x H' z => ⟨tyS z.1, ?_⟩⟩
      obtain ⟨_, B', μ', h', ρ', rl', sl', p'⟩ := z
      simp only [evEs] at p'
      exact p' _ μ' H' .refl rl' .nil
  | isdigit =>
    match xs, hn with
    | [], _ =>
      have e0 : es = .nil := hes rfl
      subst e0
      refine PE.imp (pe_bm0 PySem.F.plainAttrs_str PySem.F.slot_str_isdigit PySem.F.type_str_isdigit st_isdigit ih (recv_base ha _ _ _) hline) fun σ H Q hq => ?_
      obtain ⟨B, μ, h0, ρ, rl, sl, p⟩ := sth_at hq
      refine ⟨B, μ, h0, ρ, rl, sl, p.imp fun x H' z => ⟨tyS z.1, ?_⟩⟩
      obtain ⟨_, B', μ', h', ρ', rl', sl', p'⟩ := z
      simp only [evEs] at p'
      exact p' _ μ' H' .refl rl' .nil
end
end Rg

namespace RT
open PySem PySem.Spec PyProof.Rows L2 HT
section
variable {prog : Program} {w : World} {A : Around} {E : Value → Shared → Prop} {s : Shared}
theorem adjust_rev (n : Nat) : Builtin.Slice.sliceAdjust none none (-1) (n : Int) = ((n : Int) - 1, -1) := by
  have h1 : ((-1 : Int) < 0) := by omega
  unfold Builtin.Slice.sliceAdjust
  simp only [h1, if_true]
theorem places_rev (n : Nat) : Builtin.Slice.slicePlaces ((n : Int) - 1) (-1) (-1) = n := by
  unfold Builtin.Slice.slicePlaces
  have h1 : ¬ ((-1 : Int) > 0) := by omega
  simp only [h1, if_false, Int.neg_neg, Int.ediv_one]
  split <;> omega
theorem sliceApplied_rev {sl : Addr} {vl vu vs : Value} {n : Nat} {Q : Int × Int × Nat → Shared → Prop} (hs : s.heap.IsSliceOf sl vl vu vs) (pl : IsPart vl none) (pu : IsPart vu none) (ps : IsPart vs (some (-1)))
    (h : Q ((n : Int) - 1, -1, n) s) : wpAny (model prog w) A (Builtin.Slice.sliceApplied (.ref sl) (pure (n : Int))) Q E s := by
  obtain ⟨os, hos, hcs, hds⟩ := id hs
  unfold Builtin.Slice.sliceApplied Builtin.Slice.sliceFields
  refine wpAny_bind (wpAny_bind (wpAny_field hos hds (x := vl) rfl (wpAny_bind (wpAny_field hos hds (x := vu) rfl (wpAny_bind (wpAny_field hos hds (x := vs) rfl (wpAny_pure ?_)))))))
  refine wpAny_bind (slicePart_ ps ?_)
  show wpAny _ _ (if ((-1 : Int) == 0) = true then _ else _) _ _ s
  rw [if_neg (by decide)]
  refine wpAny_bind (slicePart_ pl (wpAny_bind (slicePart_ pu (wpAny_bind (wpAny_pure ?_)))))
  show wpAny _ _ (match Builtin.Slice.sliceAdjust none none (-1) (n : Int) with | (lo, hi) => pure (lo, (-1 : Int), Builtin.Slice.slicePlaces lo hi (-1))) _ _ s
  rw [adjust_rev n]
  show wpAny _ _ (pure ((n : Int) - 1, (-1 : Int), Builtin.Slice.slicePlaces ((n : Int) - 1) (-1) (-1))) _ _ s
  rw [places_rev]
  exact wpAny_pure h
theorem fm_all {α : Type} (f : Nat → Option α) (g : Nat → α) : ∀ n : Nat, (∀ k, k < n → f k = some (g k)) → (List.range n).filterMap f = (List.range n).map g
  | 0, _ => rfl
  | n + 1, h => by
    rw [List.range_succ, List.filterMap_append, List.map_append, fm_all f g n (fun k hk => h k (by omega))]
    simp [h n (by omega)]
theorem pick_rev (xs : Array Value) : ((List.range xs.size).filterMap fun (m : Nat) => xs[(((xs.size : Nat) : Int) - 1 + (m : Int) * (-1)).toNat]?).toArray = xs.toList.reverse.toArray := by
  congr 1
  refine List.ext_getElem? fun i => ?_
  have e : (List.range xs.size).filterMap (fun (m : Nat) => xs[(((xs.size : Nat) : Int) - 1 + (m : Int) * (-1)).toNat]?) = (List.range xs.size).map fun m => xs.getD (xs.size - 1 - m) .none := fm_all _ _ _ fun k hk => by
    have : (((xs.size : Nat) : Int) - 1 + (k : Int) * (-1)).toNat = xs.size - 1 - k := by omega
    rw [this, Array.getD_eq_getD_getElem?, Array.getElem?_eq_getElem (by omega)]
    rfl
  rw [e]
  by_cases hi : i < xs.size
  · rw [List.getElem?_map, List.getElem?_range hi, List.getElem?_reverse (by simpa using hi)]
    simp only [Option.map_some, Array.length_toList, Array.getElem?_toList]
    rw [Array.getD_eq_getD_getElem?, Array.getElem?_eq_getElem (by omega)]
    rfl
  · rw [List.getElem?_eq_none (by simp; omega), List.getElem?_eq_none (by simp; omega)]
theorem getItem_tuple_rev {t sl : Addr} {items : Array Value} {vl vu vs : Value} {Q : Value → Shared → Prop} (ht : IsTup s.heap t items) (hs : s.heap.IsSliceOf sl vl vu vs) (pl : IsPart vl none) (pu : IsPart vu none) (ps : IsPart vs (some (-1)))
    (h : Q (.ref s.heap.objs.size) { s with heap := s.heap.push { cls := .type "tuple", data := .seq items.toList.reverse.toArray } })
    (hsz : items.size ≤ sizeLine) : wpAny (model prog w) A (getItem (.ref t) (.ref sl)) Q E s := by
  have htake : sizeOk (.seq items.toList.reverse.toArray) := by
    show items.toList.reverse.toArray.size ≤ sizeLine
    simpa using hsz
  obtain ⟨os, hos, hcs, hds⟩ := id hs
  have hTs : s.TypeIs (.ref sl) "slice" := ⟨os, hos, hcs⟩
  unfold getItem
  try with_reducible refine wpAny_holding ?_
  first | refine wpAny_bind (wpAny_pure ?_) | skip
  refine wpAny_bind (wpAny_sequenceKey ht.typeIs (by decide) ?_)
  refine wpAny_bind (wpAny_callSpecial?_slot (name := Str.ofString "__getitem__") ht.typeIs PyProof.Rows.slot_tuple_getitem
    (wpAny_call_entry PyProof.Rows.slot_tuple_getitem ht.typeIs entry_tuple_getitem ?_ (args_tuple_getitem _ _)))
  show wpAny _ _ (Builtin.Tuple.tupleItemsOf (.ref t) >>= _) _ _ s
  refine wpAny_bind (tupleItemsOf_ ht ?_)
  refine wpAny_bind (wpAny_typeOf hTs ?_)
  rw [if_pos (by decide)]
  refine wpAny_bind (sliceApplied_rev hs pl pu ps ?_)
  have hno : ¬ ((((items.size : Nat) : Int) - 1 == 0 && (-1 : Int) == 1 && items.size == items.size) = true) := by
    intro q
    rw [Bool.and_eq_true, Bool.and_eq_true] at q
    exact absurd q.1.2 (by decide)
  show wpAny _ _ (if (((items.size : Nat) : Int) - 1 == 0 && (-1 : Int) == 1 && items.size == items.size) = true then _ else _) _ _ s
  rw [if_neg hno, pick_rev]
  first
    | exact wpAny_bind (m := Builtin.Tuple.tupleExact _) (wpAny_newObj_type (wpAny_pure ⟨_, rfl, wpAny_pure h⟩) htake)
    | exact wpAny_bind (m := Builtin.Tuple.tupleExact _) (wpAny_newObj_type (wpAny_bind (wpAny_pure (wpAny_pure ⟨_, rfl, wpAny_pure h⟩))) htake)
    | exact wpAny_bind (wpAny_bind (m := Builtin.Tuple.tupleExact _) (wpAny_newObj_type (wpAny_pure (wpAny_pure ⟨_, rfl, wpAny_pure h⟩)) htake))
    | exact wpAny_bind (wpAny_bind (m := Builtin.Tuple.tupleExact _) (wpAny_newObj_type (wpAny_pure ⟨_, rfl, wpAny_pure h⟩) htake))
end
end RT
namespace L2
open PySem PySem.Spec PyProof.Rows
section
variable {X : Cx}
def tRevT (K : PySem.W.Frag) (te : TE) : TE := fun σ H Q => te σ H fun x H1 => ∃ a xs, x = .ref a ∧ SqT K H1 a xs ∧ ∀ p, H1 p = none → Q (.ref p) (upd H1 p (.tup xs.reverse))
theorem pe_revT {e : Expr} {te : TE} {k : Nat} {p1 p2 p3 pos : Pos} (he : PE X e te) : PE X (.Subscript e (.Slice none none (some (.UnaryOp .USub (.Constant (.int 1) k p1) p2)) p3) pos) (tRevT X.K te) := by
  refine ⟨fun pins s σ H Q I h => ?_⟩
  refine Subscript_ (thn (he.run pins s σ H _ I h) fun v s1 ⟨x, H1, I1, r1, q1⟩ => ?_)
  obtain ⟨a, xs, ex, hx, q⟩ := q1
  subst ex
  cases r1
  have hst : PO X (some (.UnaryOp .USub (.Constant (.int 1) k p1) p2)) (tPart (tUn (rU fun i => .int (-i)) (tC (.int 1)))) := po_some (pe_un un_neg pe_int)
  refine wpAny_Slice (thn (po_none.run pins s1 σ H1 (fun o H2 => o = none ∧ H2 = H1) I1 ⟨rfl, rfl⟩) fun vl s2 ⟨l, H2, I2, pl, el, e2⟩ => ?_)
  subst el e2
  refine thn (po_none.run pins s2 σ H2 (fun o H3 => o = none ∧ H3 = H2) I2 ⟨rfl, rfl⟩) fun vu s3 ⟨u, H3, I3, pu, eu, e3⟩ => ?_
  subst eu e3
  refine thn (hst.run pins s3 σ H3 (fun o H4 => o = some (-1) ∧ H4 = H3) I3 ⟨1, rfl, -1, rfl, rfl, rfl⟩) fun vs s4 ⟨o, H4, I4, ps, eo, e4⟩ => ?_
  subst eo e4
  have I5 : Inv X pins σ H4 { s4 with heap := s4.heap.push { cls := .type "slice", data := .fields #[vl, vu, vs] } } := I4.kept (t' := s4.toks) fun b ob q => Heap.get?_push_of_some _ q
  obtain ⟨its, r, ht, hz⟩ := I5.tuple hx
  have hlen := r.length
  show wpAny (model X.prog X.w) X.A (subscriptTail e (.Slice none none (some (.UnaryOp .USub (.Constant (.int 1) k p1) p2)) p3) (.ref a) (.ref s4.heap.objs.size)) (EP X pins σ Q) X.xe { s4 with heap := s4.heap.push { cls := .type "slice", data := .fields #[vl, vu, vs] } }
  refine tail_any (ops := [.ref a, .ref s4.heap.objs.size]) ht.typeIs (PyProof.Rows.slot_tuple_getitem.lookup) ?_ (by with_unfolding_all rfl)
  refine RT.getItem_tuple_rev ht (Heap.IsSliceOf.new _ vl vu vs) pl pu ps ?_ (by rw [List.size_toArray]; omega)
  refine ⟨.ref _, _, I5.laid (t' := s4.toks) (o := .tup xs.reverse) (fun b ob q => Heap.get?_push_of_some _ q) (Nat.le_refl _) ?_, rfl, q _ (I5.hok.fresh (Nat.le_refl _))⟩
  exact ⟨by rw [List.length_reverse]; exact hz, _, r.reverse, IsTup.new _ _⟩
def tLenSetA (K : PySem.W.Frag) (ta : TE) : TE := fun σ H Q => ta σ H fun x H1 => ∃ (l : Addr) (ns : List Int), x = .ref l ∧ SqL K H1 l (ns.map V.int) ∧ ns.length ≤ 4000 ∧ Q (.int ((PyProof.Rows.firstMet (fun i => ns.getD i 0) ns.length).length : Nat)) H1
theorem pe_lenSetA {a : Expr} {ta : TE} {p p2 q pos : Pos} (hg : Gl X "len") (hm : X.mg "len" = none) (hg2 : Gl X "set") (hm2 : X.mg "set" = none) (ha : PE X a ta) (hc : X.calm = true := by rfl)
    (na : starEach [a] X.env = (false, eval a X.env) :: starEach [] X.env := by rfl) : PE X (.Call (.Name "len" p) [.Call (.Name "set" p2) [a] [] q] [] pos) (tLenSetA X.K ta) := by
  refine ⟨fun pins s σ H Q I h => ?_⟩
  refine Call_ (ld_blt I hg hm boot_len ?_)
  refine PyProof.Rows.callWith_builtin1 (PyProof.Rows.args_cons ?_ rfl) rfl rfl
  refine Call_ (ld_blt I hg2 hm2 boot_set ?_)
  refine PyProof.Rows.callWith_type1 (PyProof.Rows.args_cons (thn (ha.run pins s σ H _ I h) fun v s1 ⟨x, H1, I1, r1, q1⟩ => PyProof.Rows.args_nil ?_) na) na rfl
  obtain ⟨l, ns, rfl, hq, hl, q1⟩ := q1
  cases r1
  obtain ⟨its, r, pl, hz⟩ := I1.list hq
  have hlen : its.toArray.size = ns.length := by rw [List.size_toArray, ← r.length, List.length_map]
  refine call_set_list (I1.ok.hd hc) pl.isList (by simpa using RZ.intsAre_vals r) (by rw [hlen]; unfold scanBound; omega) fun h' tk hS hk => ?_
  refine PyProof.Rows.args_nil ?_
  rw [hlen] at hS
  obtain ⟨o, es, ep, t, ho, hex, hd, _, _, _, hf, hn⟩ := hS
  have le := PyProof.Rows.firstMet_length_le (fun i => ns.getD i 0) ns.length
  have I2 : Inv X pins σ H1 { s1 with heap := h', toks := tk } := I1.kept fun b o e => hk b o (Heap.lt_size e) e
  exact call_len_set ho hex hd hf (by rw [hn] <;> omega) ⟨.int _, H1, I2.tok _, ⟨_, by rw [hn]⟩, q1⟩
def tSlS (K : PySem.W.Frag) (n : Nat) (te : TE) (tl : TO) : TE := fun σ H Q => te σ H fun x H1 => tl σ H1 fun o H2 => ∃ a xs, x = .ref a ∧ SqL K H2 a xs ∧ ∀ p, H2 p = none → Q (.ref p) (upd H2 p (.lst (Rg.stepP xs o n)))
theorem vals_get : ∀ {xs : List V} {us : List Value}, Vals xs us → ∀ i : Nat, (xs[i]? = none ∧ us[i]? = none) ∨ ∃ x u, xs[i]? = some x ∧ us[i]? = some u ∧ RelV x u
  | _, _, .nil, i => .inl ⟨by simp, by simp⟩
  | _, _, .cons r t, 0 => .inr ⟨_, _, rfl, rfl, r⟩
  | _, _, .cons r t, i + 1 => by simpa using vals_get t i
theorem vals_pick {xs : List V} {us : List Value} (r : Vals xs us) : ∀ is : List Nat, Vals (is.filterMap (xs[·]?)) (is.filterMap (us[·]?))
  | [] => .nil
  | i :: is => by
    rcases vals_get r i with ⟨h1, h2⟩ | ⟨x, u, h1, h2, rv⟩
    · rw [List.filterMap_cons_none h1, List.filterMap_cons_none h2]
      exact vals_pick r is
    · rw [List.filterMap_cons_some h1, List.filterMap_cons_some h2]
      exact .cons rv (vals_pick r is)
theorem pe_slcS {e : Expr} {te : TE} {lo : Option Expr} {tl : TO} {n k : Nat} {p1 p3 pos : Pos} (hn : 0 < n) (he : PE X e te) (hl : PO X lo tl) : PE X (.Subscript e (.Slice lo none (some (.Constant (.int (n : Int)) k p1)) p3) pos) (tSlS X.K n te tl) := by
  refine ⟨fun pins s σ H Q I h => ?_⟩
  refine Subscript_ (thn (he.run pins s σ H _ I h) fun v s1 ⟨x, H1, I1, r1, q1⟩ => ?_)
  have hst : PO X (some (.Constant (.int (n : Int)) k p1)) (tPart (tC (.int (n : Int)))) := po_some pe_int
  refine wpAny_Slice (thn (hl.run pins s1 σ H1 _ I1 q1) fun vl s2 ⟨l, H2, I2, pl, q2⟩ => ?_)
  obtain ⟨a, xs, ex, hx, q⟩ := q2
  subst ex
  cases r1
  refine thn (po_none.run pins s2 σ H2 (fun o H3 => o = none ∧ H3 = H2) I2 ⟨rfl, rfl⟩) fun vu s3 ⟨u, H3, I3, pu, eu, e3⟩ => ?_
  subst eu e3
  refine thn (hst.run pins s3 σ H3 (fun o H4 => o = some (n : Int) ∧ H4 = H3) I3 ⟨(n : Int), rfl, rfl, rfl⟩) fun vs s4 ⟨o, H4, I4, ps, eo, e4⟩ => ?_
  subst eo e4
  have I5 : Inv X pins σ H4 { s4 with heap := s4.heap.push { cls := .type "slice", data := .fields #[vl, vu, vs] } } := I4.kept (t' := s4.toks) fun b ob q => Heap.get?_push_of_some _ q
  obtain ⟨its, r, ht, hz⟩ := I5.list hx
  have hlen := r.length
  show wpAny (model X.prog X.w) X.A (subscriptTail e (.Slice lo none (some (.Constant (.int (n : Int)) k p1)) p3) (.ref a) (.ref s4.heap.objs.size)) (EP X pins σ Q) X.xe { s4 with heap := s4.heap.push { cls := .type "slice", data := .fields #[vl, vu, vs] } }
  refine tail_any (ops := [.ref a, .ref s4.heap.objs.size]) ht.isList.typeIs (PySem.slot_list_getitem.lookup) ?_ (by with_unfolding_all rfl)
  refine wpAny_getItem_list_slice ht.isList (Heap.IsSliceOf.new _ vl vu vs) pl pu ps (fun z => by injection z with z; omega) ?_ (by rw [List.size_toArray]; omega)
  have hle := slicePick_size_le its.toArray l none (some (n : Int))
  have ep : (slicePick its.toArray l none (some (n : Int))).toList = (sliceRange (sliceBounds l none (some (n : Int)) xs.length).1 (sliceBounds l none (some (n : Int)) xs.length).2.1 (sliceBounds l none (some (n : Int)) xs.length).2.2).filterMap (its[·]?) := by
    unfold slicePick
    rw [List.size_toArray, ← hlen]
    simp
  have rr : Vals (Rg.stepP xs l n) (slicePick its.toArray l none (some (n : Int))).toList := by
    rw [ep]
    exact vals_pick r _
  have rl : (Rg.stepP xs l n).length = (slicePick its.toArray l none (some (n : Int))).size := by
    rw [← Array.length_toList]
    first | exact rr.length | exact rr.length.symm
  have hz2 : its.toArray.size ≤ sizeLine := by rw [List.size_toArray]; omega
  refine ⟨.ref _, _, I5.laid (t' := s4.toks) (o := .lst (Rg.stepP xs l n)) (fun b ob q => Heap.get?_push_of_some _ q) (Nat.le_refl _) ?_, rfl, q _ (I5.hok.fresh (Nat.le_refl _))⟩
  exact ⟨by rw [rl]; exact Nat.le_trans hle hz2, _, 0, rr, Heap.get?_push_size _ rfl⟩
end
end L2
namespace Rg
open PySem PySem.Spec PyProof.Rows L2
section
variable {K : PySem.W.Frag} [Wd K] {B μ : List Addr} {H : Hp}
theorem Reps.get2 {l : List PV} {vs : List V} : Reps K B μ H l vs → ∀ i : Nat, (l[i]? = none ∧ vs[i]? = none) ∨ ∃ x u, l[i]? = some x ∧ vs[i]? = some u ∧ Rep K B μ H x u := by
  induction l generalizing vs with
  | nil => intro t i; rw [t.nil_inv]; exact .inl ⟨by simp, by simp⟩
  | cons p l ih =>
    intro t i
    obtain ⟨v, w, rfl, h1, t⟩ := t.cons_inv
    cases i with
    | zero => exact .inr ⟨_, _, rfl, rfl, h1⟩
    | succ i => simpa using ih t i
theorem Reps.pick {l : List PV} {vs : List V} (t : Reps K B μ H l vs) : ∀ is : List Nat, Reps K B μ H (is.filterMap (l[·]?)) (is.filterMap (vs[·]?))
  | [] => .nil
  | i :: is => by
    rcases t.get2 i with ⟨h1, h2⟩ | ⟨x, u, h1, h2, rv⟩
    · rw [List.filterMap_cons_none h1, List.filterMap_cons_none h2]
      exact t.pick is
    · rw [List.filterMap_cons_some h1, List.filterMap_cons_some h2]
      exact .cons rv (t.pick is)
end
theorem dedI_met (ns : List Int) : (PyProof.Rows.firstMet (fun i => ns.getD i 0) ns.length) = dedI ns := by
  unfold PyProof.Rows.firstMet dedI
  congr 1
  refine List.ext_getElem? fun i => ?_
  by_cases hi : i < ns.length
  · rw [List.getElem?_map, List.getElem?_range hi, List.getElem?_eq_getElem hi]
    simp [List.getD_eq_getElem?_getD, List.getElem?_eq_getElem hi]
  · rw [List.getElem?_eq_none (by simp; omega), List.getElem?_eq_none (by omega)]
variable {pg : Pg} {k : Nat} {N : List Str} {XC : XCT} {sc : Scope} {X : Cx} {W : WX} [Wd X.K]
theorem s_revT {e : E} {x : Expr} {j : Nat} {p1 p2 p3 pos : Pos} (ih : PE X x (rdE X.K XC W pg k e)) : PE X (.Subscript x (.Slice none none (some (.UnaryOp .USub (.Constant (.int 1) j p1) p2)) p3) pos) (rdE X.K XC W pg k (.revT e)) := by
  refine PE.imp (pe_revT ih) fun σ H Q hq => ?_
  obtain ⟨B, μ, h0, ρ, rl, sl, p⟩ := hq
  simp only [evE] at p
  refine ⟨B, μ, h0, ρ, rl, sl, p.bnd fun v h1 x1 μ1 H1 _ st1 rl1 rp1 p1 => ?_⟩
  simp only at p1
  split at p1
  · obtain ⟨a, vs, ex, hsx, t⟩ := Rep.tup_iff.mp rp1
    exact ⟨a, vs, ex, hsx.sq, fun p hp => p1 _ μ1 _ (.new hp) (rl1.new hp) (.newTup rl1 hp (Reps.reverse t))⟩
  · exact p1.elim
theorem s_lenS {e : E} {x : Expr} {p p2 pos2 pos : Pos} (G : Good pg k N XC sc X) (hg : glB sc "len" = true) (hg2 : glB sc "set" = true) (ih : PE X x (rdE X.K XC W pg k e)) (hp : plainHd x = true) :
    PE X (.Call (.Name "len" p) [.Call (.Name "set" p2) [x] [] pos2] [] pos) (rdE X.K XC W pg k (.lenS e)) := by
  obtain ⟨g1, g2, g3⟩ := G.glob hg
  obtain ⟨k1, k2, k3⟩ := G.glob hg2
  refine PE.imp (pe_lenSetA g1 (G.bmg (by decide +kernel)) k1 (G.bmg (by decide +kernel)) ih G.calm (plain_star hp _ _)) fun σ H Q hq => ?_
  obtain ⟨B, μ, h0, ρ, rl, sl, p⟩ := hq
  simp only [evE] at p
  refine ⟨B, μ, h0, ρ, rl, sl, p.bnd fun v h1 x1 μ1 H1 _ st1 rl1 rp1 p1 => ?_⟩
  simp only at p1
  split at p1
  · rename_i l hl
    split at p1
    · rename_i ns hn
      split at p1
      · rename_i hlen
        obtain ⟨a, vs, ex, hrd, t⟩ := lview_ok rl1 rp1 hl
        have ev := Reps.all_int hn t
        subst ev
        refine ⟨a, ns, ex, hrd, hlen, ?_⟩
        rw [dedI_met]
        exact p1 _ μ1 H1 .refl rl1 .int
      · exact p1.elim
    · exact p1.elim
  · exact p1.elim
theorem s_slcS {a : E} {lo : Oe} {n j : Nat} {x : Expr} {l : Option Expr} {p1 p3 pos : Pos} (hn : 0 < n) (iha : PE X x (rdE X.K XC W pg k a)) (ihl : PO X l (rdO X.K XC W pg k lo)) :
    PE X (.Subscript x (.Slice l none (some (.Constant (.int (n : Int)) j p1)) p3) pos) (rdE X.K XC W pg k (.slcS a lo n)) := by
  refine PE.imp (pe_slcS hn iha ihl) fun σ H Q hq => ?_
  obtain ⟨B, μ, h0, ρ, rl, sl, p⟩ := hq
  simp only [evE] at p
  refine ⟨B, μ, h0, ρ, rl, sl, p.bnd fun v h1 x1 μ1 H1 _ st1 rl1 rp1 p1 => ?_⟩
  refine ⟨B, μ1, h1, ρ, rl1, sl.step st1, p1.bnd fun ol h2 y2 μ2 H2 _ st2 rl2 rp2 p2 => ?_⟩
  subst rp2
  simp only at p2
  split at p2
  · rename_i m hm
    obtain ⟨q, vs, ex, hrd, t⟩ := lview_ok rl2 (rp1.step st2) hm
    refine ⟨q, vs, ex, hrd, fun p hp => p2 _ μ2 _ (.new hp) (rl2.new hp) (.newLst rl2 hp ?_)⟩
    have e1 := t.length
    unfold stepP
    rw [← e1]
    exact t.pick _
  · exact p2.elim
end Rg

namespace SKey
open PySem PySem.Spec PySem.Calls PyProof.Rows PySem.W L2
/-- the heap without the object at c -/
def wo (g : Heap) (c : Addr) : Heap := g.update c fun o => { o with data := .freed }
theorem wo_ne {g : Heap} {b c : Addr} (n : b ≠ c) : (wo g c).get? b = g.get? b := (Heap.SameBut.update g c _).2 b n
theorem wo_none {g : Heap} {c : Addr} : (wo g c).get? c = none := by
  unfold wo
  have e := Heap.objs_update_self g c (fun o => { o with data := .freed })
  unfold Heap.get?
  rw [e]
  cases g.objs[c]? <;> rfl
theorem zip_ints : ∀ {kz : List Int} {xs : List V}, kz.length = xs.length → (kz.zip xs).map (fun b => PyData.int b.1) = kz.map PyData.int
  | [], _, _ => by simp
  | k :: kz, [], e => by simp at e
  | k :: kz, x :: xs, e => by simp only [List.zip_cons_cons, List.map_cons]; rw [zip_ints (by simpa using e)]
theorem vals_zip : ∀ {kz : List Int} {xs : List V} {us : List Value}, kz.length = xs.length → Vals xs us → EachIs (fun u (b : Int × V) => RelV b.2 u) us (kz.zip xs)
  | [], [], _, _, .nil => .nil
  | k :: kz, x :: xs, u :: us, e, .cons r t => .cons r (vals_zip (by simpa using e) t)
  | [], x :: xs, _, e, _ => by simp at e
  | k :: kz, [], _, e, _ => by simp at e
theorem zip_vals : ∀ {bs : List (Int × V)} {us : List Value}, EachIs (fun u (b : Int × V) => RelV b.2 u) us bs → Vals (bs.map (·.2)) us
  | [], [], _ => .nil
  | b :: bs, u :: us, e => by
    cases e with
    | cons r t => exact .cons r (zip_vals t)
  | [], u :: us, e => by cases e
  | b :: bs, [], e => by cases e
theorem ints_reads {h : Heap} : ∀ {us : List Value} {kz : List Int}, IntsAre us kz → EachIs (fun v k => ∃ as, Reads h v k as) us (kz.map PyData.int)
  | [], [], _ => .nil
  | u :: us, k :: kz, e => by
    cases e with
    | cons n tk r => exact .cons ⟨[], .int _ _⟩ (ints_reads r)
  | [], k :: kz, e => by cases e
  | u :: us, [], e => by cases e
section
variable {X : Cx} {pins : List (Addr × Obj)} {σ : L2.St} {A : Around} {kz : List Int} {vs : List Value} {xs : List V} {a kS : Addr} {e1 : Nat} {f : Value} {J : Nat → Hp → Prop}
theorem fp_st {H H' : Hp} {b : Addr} (g : FpOk X pins H b) (n : H' b = none) : FpOk X pins H' b := ⟨n, g.2⟩
/-- the pins while the keys are made -/
def pl (a kS : Addr) (e1 : Nat) (kA : Array Value) (e : Nat) : List (Addr × Obj) := [(a, seqObj "list" #[] e1), (kS, seqObj "list" kA e)]
theorem pl_in {H : Hp} {s : Shared} {kA : Array Value} {e : Nat} (I : Inv X pins σ H s) (ga : FpOk X pins H a) (gk : FpOk X pins H kS) (na : s.heap.get? a = some (seqObj "list" #[] e1)) (nk : s.heap.get? kS = some (seqObj "list" kA e)) :
    Inv X (pins ++ pl a kS e1 kA e) σ H s := I.pins_of fun p hp => by
  rcases List.mem_append.mp hp with z | z
  · exact I.pin p (List.mem_append_right _ z)
  · simp only [pl, List.mem_cons, List.not_mem_nil, or_false] at z
    rcases z with rfl | rfl
    · exact ⟨na, ga.1, ga.2.1, ga.2.2.1, fun v q => by cases q⟩
    · exact ⟨nk, gk.1, gk.2.1, gk.2.2.1, fun v q => by cases q⟩
theorem pl_out {H : Hp} {s : Shared} {kA : Array Value} {e : Nat} (I : Inv X (pins ++ pl a kS e1 kA e) σ H s) : s.heap.get? a = some (seqObj "list" #[] e1) ∧ s.heap.get? kS = some (seqObj "list" kA e) ∧ H a = none ∧ H kS = none := by
  have p1 := I.pin (a, seqObj "list" #[] e1) (List.mem_append_right _ (List.mem_append_right _ (by simp [pl])))
  have p2 := I.pin (kS, seqObj "list" kA e) (List.mem_append_right _ (List.mem_append_right _ (by simp [pl])))
  exact ⟨p1.1, p2.1, p1.2.1, p2.2.1⟩
/-- what the sort tells -/
def out (kz : List Int) (xs : List V) : List V := ((kz.zip xs).mergeSort fun p q => decide (p.1 ≤ q.1)).map (·.2)
theorem key_rest {H : Hp} {s : Shared} {Q : VK} {E : Value → Shared → Prop} (I : Inv X pins σ H s) (ga : FpOk X pins H a) (gk : FpOk X pins H kS) (hka : kS ≠ a) (nk : s.heap.get? kS = some (seqObj "list" #[] 0))
    (na : s.heap.get? a = some (seqObj "list" #[] e1)) (hlen : kz.length = vs.length) (hx : Vals xs vs) (hZ : vs.length ≤ sizeLine) (hu : A.units < cLine) (j0 : J 0 H)
    (turn : ∀ (i : Nat) (v : Value) (k : Int) (pn : List (Addr × Obj)) (s1 : Shared) (H1 : Hp), vs[i]? = some v → kz[i]? = some k → Inv X (pins ++ pn) σ H1 s1 → J i H1 →
      wpAny (model X.prog X.w) A (call f [v]) (EP X (pins ++ pn) σ fun u H2 => u = .int k ∧ J (i + 1) H2) (fun _ _ => False) s1)
    (q : ∀ H2, J vs.length H2 → H2 a = none → Q (.ref a) (upd H2 a (.lst (out kz xs)))) :
    wpAny (model X.prog X.w) A (ksk_rest a f false vs.toArray e1 (.ref kS)) (fun r s' => r = .done (.ret .none) ∧ EP X pins σ Q (.ref a) s') E s := by
  have hxl : kz.length = xs.length := hlen.trans hx.length.symm
  unfold ksk_rest
  refine wpAny_bind (wpAny_rule ?_)
  first
    | rw [List.forIn_toArray]
    | (rw [← Array.forIn_toList]; simp only [List.toList_toArray])
  refine wpAny_bind (ksk_fold (fun i s' => ∃ H' kA e, Inv X (pins ++ pl a kS e1 kA e) σ H' s' ∧ IntsAre kA.toList (kz.take i) ∧ J i H') vs 0 s ⟨H, #[], 0, pl_in I ga gk na nk, by rw [List.take_zero]; exact .nil, j0⟩ ?st ?dn)
  case st =>
    rintro j x s' hj ⟨H', kA, e, I', hk, jj⟩
    simp only [Nat.zero_add] at hk jj ⊢
    have lj : j < vs.length := (List.getElem?_eq_some_iff.mp hj).1
    obtain ⟨k, ek⟩ : ∃ k, kz[j]? = some k := ⟨_, List.getElem?_eq_getElem (by omega)⟩
    refine wpAny_bind (wpAny_attempt (wpAny_mono (turn j x k _ s' H' hj ek I' jj) (fun v s2 he => ?_) fun _ _ hF => hF.elim))
    obtain ⟨u, H2, I2, ru, rfl, j2⟩ := he
    obtain ⟨t, rfl⟩ : ∃ t, v = .int k t := ru
    try dsimp only
    obtain ⟨na2, nk2, a0, k0⟩ := pl_out I2
    have hz : kA.size ≤ vs.length := by
      have := hk.length
      rw [Array.length_toList, List.length_take] at this
      omega
    refine wpAny_bind (listUpdate_at nk2 rfl ?_ (Nat.le_trans hz hZ) (Nat.le_trans (Nat.le_of_eq (Array.size_push ..)) (Nat.succ_le_succ (Nat.le_trans hz hZ))))
    have sb := Heap.SameBut.update s2.heap kS (Obj.mapSeq (·.push (Value.int k t)))
    obtain ⟨c2, nk3⟩ : ∃ c2, (s2.heap.update kS (Obj.mapSeq (·.push (Value.int k t)))).get? kS = some (seqObj "list" (kA.push (.int k t)) c2) := ⟨_, get?_update_seq nk2 (·.push (Value.int k t))⟩
    have na3 := (sb.2 a hka.symm).trans na2
    have I3 := (I2.unpinned).turnedL (t' := s2.toks) (ch := [kS]) (h' := s2.heap.update kS (Obj.mapSeq (·.push (Value.int k t)))) (fun b o hb eo => (sb.2 b (by simpa using hb)).trans eo) (fun b hb => by
      have : b = kS := by simpa using hb
      subst this
      exact fp_st gk k0)
    refine wpAny_pure ⟨rfl, H2, kA.push (.int k t), c2, pl_in I3 (fp_st ga a0) (fp_st gk k0) na3 nk3, ?_, j2⟩
    rw [Array.toList_push, List.take_add_one, ek]
    exact ksk_snoc hk
  case dn =>
    rintro s' ⟨H', kA, e, I', hk, jj⟩
    rw [Nat.zero_add] at hk jj
    rw [List.take_of_length_le (by omega)] at hk
    obtain ⟨na2, nk2, a0, k0⟩ := pl_out I'
    have hsz : kA.size = vs.length := by
      have := hk.length
      rw [Array.length_toList] at this
      omega
    try dsimp only
    refine wpAny_bind (listItems_at nk2 rfl ?_)
    have hal : AllAlike ((kz.zip xs).map fun b => PyData.int b.1) := AllAlike.of fun _ _ => by simp [alike]
    have hso : Sortable ((kz.zip xs).map fun b => PyData.int b.1) := Sortable.others fun _ => ⟨by simp, by simp⟩
    have er : EachIs (fun v k => ∃ as, Reads s'.heap v k as) kA.toList ((kz.zip xs).map fun b => PyData.int b.1) := by rw [zip_ints hxl]; exact ints_reads hk
    refine keyH_end (κ := dataKind s'.heap ((kz.zip xs).map fun b => PyData.int b.1)) (h₁ := wo s'.heap kS) (fun b o _ eo => ?_) wo_none nk2 na2 hka (SortsAt.data er hal hso ?_) hsz hZ fun h3 tk3 c kp n3 => ?_
    · by_cases hb : b = kS
      · subst hb; rw [wo_none] at eo; cases eo
      · rwa [wo_ne hb] at eo
    · intro d hd
      obtain ⟨b, _, rfl⟩ := List.mem_map.mp hd
      simpa [PyData.depth] using hu
    · have I3 := (I'.unpinned).turnedL (t' := tk3) (ch := [a, kS]) (h' := h3) (fun b o hb eo => kp b o (by simp at hb; exact hb.1) (by rw [wo_ne (by simp at hb; exact hb.2)]; exact eo)) (fun b hb => by
        have : b = a ∨ b = kS := by simpa using hb
        rcases this with rfl | rfl
        · exact fp_st ga a0
        · exact fp_st gk k0)
      have ko : EachIs (fun u (b : Int × V) => RelV b.2 u) (sortVals (dataKind s'.heap ((kz.zip xs).map fun b => PyData.int b.1)) false kA.toList vs) ((kz.zip xs).mergeSort (dataLe false fun b => PyData.int b.1)) :=
        keyedOut_each (fun b : Int × V => PyData.int b.1) ⟨s'.heap, kA.toList, hal, rfl, er⟩ (vals_zip hxl hx)
      rw [dataLe_int] at ko
      have vo := zip_vals ko
      have lo : (out kz xs).length ≤ sizeLine := by
        unfold out
        rw [List.length_map, List.length_mergeSort, List.length_zip, ← hxl, hlen, Nat.min_self]
        exact hZ
      exact ⟨rfl, .ref a, upd H' a (.lst (out kz xs)), I3.take (it := a) (o := .lst (out kz xs)) (h' := h3) (fun _ _ _ z => z) (fp_st ga a0) ⟨lo, _, c, vo, n3⟩, rfl, q H' jj a0⟩
/-- sorted(l, key=f) -/
theorem sorted_key {H : Hp} {s : Shared} {Q : VK} {E : Value → Shared → Prop} {l fa : Addr} (I : Inv X pins σ H s) (hl : s.heap.IsList l vs.toArray) (hlen : kz.length = vs.length) (hx : Vals xs vs) (hZ : vs.length ≤ sizeLine) (hu : X.A.units + 64 < cLine) (j0 : J 0 H)
    (turn : ∀ (i : Nat) (v : Value) (k : Int) (pn : List (Addr × Obj)) (s1 : Shared) (H1 : Hp), vs[i]? = some v → kz[i]? = some k → Inv X (pins ++ pn) σ H1 s1 → J i H1 →
      wpAny (model X.prog X.w) X.A.in1.in1 (call (.ref fa) [v]) (EP X (pins ++ pn) σ fun u H2 => u = .int k ∧ J (i + 1) H2) (fun _ _ => False) s1)
    (q : ∀ H2 d, J vs.length H2 → H2 d = none → Q (.ref d) (upd H2 d (.lst (out kz xs)))) :
    wpAny (model X.prog X.w) X.A (call (.builtin "sorted") [.ref l] [(Str.ofString "key", .ref fa)]) (EP X pins σ Q) E s := by
  have fresh : ∀ b, s.heap.objs.size ≤ b → H b = none := fun b hb => I.hok.fresh hb
  refine sorted_of_sort hl hZ (ksk_s1 _ _) (fun _ => ksk_l1 _ _) fun E' => ?_
  rw [ksk_t1]
  have ho := copyHeap_at s.heap vs
  have cs : s.heap.objs.size + 1 < (copyHeap s.heap vs).objs.size := Heap.lt_size ho
  generalize ea : s.heap.objs.size + 1 = a at ho cs ⊢
  have I1 : Inv X pins σ H { s with heap := copyHeap s.heap vs } := I.kept (t' := s.toks) fun b u e => copyHeap_old e
  obtain ⟨e1, ho1⟩ : ∃ e1, ((copyHeap s.heap vs).update a (Obj.mapSeq fun _ => (#[] : Array Value))).get? a = some (seqObj "list" #[] e1) := ⟨_, get?_update_seq ho fun _ => #[]⟩
  have ga : FpOk X pins H a := I.fpOk (by omega) (fresh a (by omega))
  generalize ek : (((copyHeap s.heap vs).update a (Obj.mapSeq fun _ => (#[] : Array Value))).push (seqObj "tuple" vs.toArray 0)).objs.size = kS
  have lk : (copyHeap s.heap vs).objs.size < kS := by rw [← ek, size_push', Heap.size_update]; omega
  have gk : FpOk X pins H kS := I.fpOk (by omega) (fresh kS (by omega))
  have sb := Heap.SameBut.update (copyHeap s.heap vs) a (Obj.mapSeq fun _ => (#[] : Array Value))
  unfold ksk_tree
  refine wpAny_bind (listItems_at ho rfl ?_)
  refine wpAny_bind (listUpdate_at ho rfl ?_ (by rw [List.size_toArray]; exact hZ) (Nat.zero_le _))
  refine wpAny_bind (seqEpoch_at ho1 rfl ?_)
  refine wpAny_bind (wpAny_newTuple ?_ (by show vs.length ≤ _; exact hZ))
  refine wpAny_bind (wpAny_newList ?_ (Nat.zero_le _))
  refine wpAny_holding ?_
  try dsimp only
  have I2 := I1.turnedL (t' := s.toks) (ch := [a]) (h' := (((copyHeap s.heap vs).update a (Obj.mapSeq fun _ => (#[] : Array Value))).push (seqObj "tuple" vs.toArray 0)).push (seqObj "list" #[] 0))
    (fun b o hb e => Heap.get?_push_of_some _ (Heap.get?_push_of_some _ ((sb.2 b (by simpa using hb)).trans e))) (fun b hb => by
      have : b = a := by simpa using hb
      rw [this]; exact ga)
  rw [ek]
  exact key_rest (J := J) I2 ga gk (Nat.ne_of_gt (Nat.lt_trans cs lk)) (by rw [← ek]; exact Heap.get?_push_size _ rfl) (Heap.get?_push_of_some _ (Heap.get?_push_of_some _ ho1)) hlen hx hZ (by show X.A.units + 1 + 1 < cLine; omega) j0 turn fun H2 j2 n2 => q H2 a j2 n2
end
end SKey

namespace Rg
open PySem PySem.Spec PyProof.Rows L2
theorem kyB_ok {pg : Pg} {f : String} {z : Str} (h : kyB pg f z = true) : ∃ g, pg.ky f = some g ∧ pg.fn f = none ∧ pg.mak f = none ∧ fnB pg g z = true := by
  unfold kyB at h
  split at h
  · rename_i g e
    simp only [Bool.and_eq_true, Option.isNone_iff_eq_none] at h
    exact ⟨g, e, h.1.1, h.1.2, h.2⟩
  · cases h
theorem no_cx {P : Program} {w : World} {o : List Env} {H : Hp} {s : Shared} {e : Value} {s' : Shared} (h : L2.CX P w o H s (fun _ _ _ => False) e s') : False := by
  obtain ⟨_, _, _, _, _, _, _, _, _, _, _, _, z⟩ := h
  exact z.elim
theorem keysK_len {cal : Cal} {f : String} : ∀ {l : List PV} {h : MH} {ks : List Int} {h' : MH}, keysK cal f l h = .ok (ks, h') → ks.length = l.length
  | [], h, ks, h', e => by simp only [keysK, Except.ok.injEq, Prod.mk.injEq] at e; rw [← e.1]; rfl
  | v :: l, h, ks, h', e => by
    simp only [keysK] at e
    split at e
    · obtain ⟨y, e1, e2⟩ := bnd_eq_ok e
      cases e2
      rw [List.length_cons, List.length_cons, keysK_len (ks := y.1) (h' := y.2) e1]
    · cases e
theorem keysK_err {cal : Cal} {f : String} : ∀ {l : List PV} {h : MH} {e : Er}, keysK cal f l h = .error e → e = .stuck
  | [], h, e, q => by simp [keysK] at q
  | v :: l, h, e, q => by
    simp only [keysK] at q
    split at q
    · rename_i i h1 _
      cases hk : keysK cal f l h1 with
      | error e' =>
        rw [hk] at q
        have : e' = e := by simpa [bnd] using q
        rw [← this]
        exact keysK_err hk
      | ok y => rw [hk] at q; simp [bnd] at q
    · unfold stk at q
      exact (Except.error.inj q).symm
section
variable {pg : Pg} {k : Nat} {N : List Str} {XC : XCT} {sc : Scope} {X : Cx} {W : WX} {B : List Addr}
theorem reps_pairs {K : PySem.W.Frag} [Wd K] {μ : List Addr} {H : Hp} : ∀ {T : List (Int × PV × V)}, (∀ t ∈ T, Rep K B μ H t.2.1 t.2.2) → Reps K B μ H (T.map (·.2.1)) (T.map (·.2.2))
  | [], _ => .nil
  | t :: T, h => .cons (h t List.mem_cons_self) (reps_pairs fun u hu => h u (List.mem_cons_of_mem _ hu))
theorem trip {K : PySem.W.Frag} [Wd K] {μ : List Addr} {H : Hp} : ∀ {ks : List Int} {l : List PV} {xs : List V}, Reps K B μ H l xs → ∃ T : List (Int × PV × V), T.map (fun t => (t.1, t.2.1)) = ks.zip l ∧ T.map (fun t => (t.1, t.2.2)) = ks.zip xs ∧ ∀ t ∈ T, Rep K B μ H t.2.1 t.2.2
  | [], l, xs, _ => ⟨[], by simp, by simp, fun _ h => by simp at h⟩
  | k :: ks, [], xs, t => ⟨[], by simp, by rw [t.nil_inv]; simp, fun _ h => by simp at h⟩
  | k :: ks, v :: l, xs, t => by
    obtain ⟨x, r, rfl, h1, t⟩ := t.cons_inv
    obtain ⟨T, e1, e2, hT⟩ := trip (ks := ks) t
    refine ⟨(k, v, x) :: T, by simp [e1], by simp [e2], fun u hu => ?_⟩
    rcases List.mem_cons.mp hu with rfl | hu
    · exact h1
    · exact hT u hu
theorem sortK_reps {K : PySem.W.Frag} [Wd K] {μ : List Addr} {H : Hp} {ks : List Int} {l : List PV} {xs : List V} (t : Reps K B μ H l xs) : Reps K B μ H (sortK ks l) (SKey.out ks xs) := by
  obtain ⟨T, e1, e2, hT⟩ := trip (ks := ks) t
  unfold sortK SKey.out
  rw [← e1, ← e2, ← List.map_mergeSort (r := fun (p q : Int × PV × V) => decide (p.1 ≤ q.1)) (fun _ _ _ _ => rfl), ← List.map_mergeSort (r := fun (p q : Int × PV × V) => decide (p.1 ≤ q.1)) (fun _ _ _ _ => rfl), List.map_map, List.map_map]
  exact reps_pairs fun u hu => hT u ((List.mergeSort_perm _ _).mem_iff.mp hu)
/-- a key is made, the others stand -/
theorem keysK_step {cal : Cal} {f : String} {v : PV} {l : List PV} {h h2 : MH} {ks : List Int} (e : keysK cal f (v :: l) h = .ok (ks, h2)) : ∃ i r h1, ks = i :: r ∧ cal f [v] h = .ok (.int i, h1) ∧ keysK cal f l h1 = .ok (r, h2) := by
  simp only [keysK] at e
  split at e
  · rename_i i h1 q
    obtain ⟨y, e1, e2⟩ := bnd_eq_ok e
    cases e2
    exact ⟨i, y.1, h1, rfl, q, e1⟩
  · cases e
theorem env_in2 {P : Program} {w : World} {K : PySem.W.Frag} {mg : Str → Option Value} {base : Heap} {A : Around} {outer : List Env} {s : Shared} {H : Hp} (e : Env0 P w K mg base A outer s H) : Env0 P w K mg base A.in1.in1 outer s H := e.in1.in1
theorem room_in2 {k : Nat} {A : Around} (r : Room (k + 1) A) : Room k A.in1.in1 :=
  ⟨r.hd, by have := r.dp; show A.depth + 3 * k + 5 < _; omega, by have := r.un; show A.units + 1 + 1 + 16 * k + 200 < _; omega⟩
def rKey (X : Cx) (pg : Pg) (k : Nat) (f : String) (a : Addr) : List V → List V → Hp → VK → Prop := fun xs zs H Q => ∃ (l : Addr) (B μ : List Addr) (h h2 : MH) (vs : List PV) (ys : List V) (ks : List Int), xs = [.ref l] ∧ zs = [.ref a] ∧ SqL X.K H l ys ∧
  Rel X.K B μ h H ∧ Reps X.K B μ H vs ys ∧ keysK (run pg k) f vs h = .ok (ks, h2) ∧ ∀ μ2 H2 d, Step μ H μ2 H2 → Rel X.K B μ2 h2 H2 → H2 d = none → Q (.ref d) (upd H2 d (.lst (SKey.out ks ys)))
theorem cr_key (G : Good pg k N XC sc X) {f : String} {z : Str} (hz : kyB pg f z = true) : ∃ a, X.mg z = some (.ref a) ∧ CallRK X (.builtin "sorted") [Str.ofString "key"] (rKey X pg k f a) := by
  obtain ⟨g, e1, e2, e3, hf⟩ := kyB_ok hz
  obtain ⟨d, ed, ex, ecl⟩ := fnB_ok hf
  obtain ⟨a, fdt0, ps0, hm, hk0, hb0, F0⟩ := G.fns g d ed ecl
  rw [ex] at hm
  refine ⟨a, hm, ?_⟩
  intro pins s σ H xs zs us ws Q I r rz h
  obtain ⟨l, B, μ, h0, h2, vs, ys, ks, rfl, rfl, hs, rl, t, ek, q⟩ := h
  obtain rfl := Vals.ref1 r
  obtain ⟨w1, rfl, ew⟩ := vals1 rz
  obtain rfl : w1 = Value.ref a := ew
  obtain ⟨its, rv, hl, hsz⟩ := I.list hs
  have lk : ks.length = vs.length := keysK_len ek
  have hlen : ks.length = its.length := lk.trans (t.length.trans rv.length)
  cases k with
  | zero =>
    -- no calls at all
    cases vs with
    | nil =>
      have : ys = [] := t.nil_inv
      subst this
      have hk0 : ks = [] := List.length_eq_zero_iff.mp (by simpa using lk)
      subst hk0
      simp only [keysK, Except.ok.injEq, Prod.mk.injEq] at ek
      obtain ⟨_, rfl⟩ := ek
      refine SKey.sorted_key (J := fun _ H1 => ∃ μ1, Step μ H μ1 H1 ∧ Rel X.K B μ1 h0 H1) (kz := []) I hl.isList hlen rv (by rw [← rv.length]; exact hsz) G.room.units ⟨μ, .refl, rl⟩ (fun i v k' pn s1 H1 hv => ?_) fun H2 d ⟨μ2, st, rl2⟩ nd => q μ2 H2 d st rl2 nd
      intro hk'
      simp at hk'
    | cons v vs =>
      obtain ⟨i, r', h1, rfl, ec, _⟩ := keysK_step ek
      simp [run, stk] at ec
  | succ k =>
    obtain ⟨a', fdt, ps, hm', hk', hb, F⟩ := G.ups k rfl g d ed ecl
    rw [ex, hm] at hm'
    cases hm'
    refine SKey.sorted_key (J := fun i H1 => ∃ μ1 hi, Step μ H μ1 H1 ∧ Rel X.K B μ1 hi H1 ∧ keysK (run pg (k + 1)) f (vs.drop i) hi = .ok (ks.drop i, h2)) (kz := ks) I hl.isList hlen rv (by rw [← rv.length]; exact hsz) G.room.units ⟨μ, h0, .refl, rl, by simpa using ek⟩
      (fun i v k' pn s1 H1 hv hk I1 ⟨μ1, hi, st1, rl1, e⟩ => ?_) fun H2 d ⟨μ2, hi, st, rl2, e⟩ nd => ?_
    · have li : i < vs.length := by rw [← lk]; exact (List.getElem?_eq_some_iff.mp hk).1
      rw [List.drop_eq_getElem_cons li] at e
      obtain ⟨i0, r', h1, er, ec, e'⟩ := keysK_step e
      have lik : i < ks.length := by omega
      rw [List.drop_eq_getElem_cons lik] at er
      simp only [List.cons.injEq] at er
      obtain ⟨er1, er2⟩ := er
      have ek' : k' = i0 := by
        rw [List.getElem?_eq_getElem lik] at hk
        rw [← Option.some.inj hk, er1]
      subst ek'
      obtain ⟨y, ey, ry⟩ := (t.step st1).get (List.getElem?_eq_getElem li)
      have rvy : RelV y v := by
        rcases vals_get rv i with ⟨z1, z2⟩ | ⟨x, u, z1, z2, z3⟩
        · rw [z2] at hv; cases hv
        · rw [ey] at z1; rw [hv] at z2
          cases z1; cases z2
          exact z3
      have ec' : run pg k g [vs[i]] hi = .ok (.int k', h1) := by
        rw [run, e2] at ec
        simp only [e3, xmR, e1] at ec
        exact ec
      have sp : spF X.K XC pg k g [y] H1 (fun u H2 => u = .int k' ∧ ∃ μ2 hi2, Step μ H μ2 H2 ∧ Rel X.K B μ2 hi2 H2 ∧ keysK (run pg (k + 1)) f (vs.drop (i + 1)) hi2 = .ok (ks.drop (i + 1), h2)) (fun _ _ _ => False) := by
        refine ⟨B, μ1, hi, [vs[i]], rl1, .cons ry .nil, ?_⟩
        rw [ec']
        intro x μ2 H2 st2 rl2 rp2
        refine ⟨Rep.int_iff.mp rp2, μ2, h1, st1.trans st2, rl2, ?_⟩
        rw [e', er2]
      have hl1 : ([v] ++ ([] : List Value)).length = ps.length := by
        have := F.len _ _ _ _ sp
        simpa using this
      refine wpAny_call (codeAny_mono (F.run X.A.in1.in1 X.stack s1 H1 ⟨[v], []⟩ ([v] ++ []) [y] _ (fun _ _ _ => False) (room_in2 G.room) (env_in2 I1.env0) (hb s1 [v] I1.kIn hl1) (.cons rvy .nil) sp) fun r s' hq => ?_)
      cases r with
      | error e => exact no_cx hq
      | ok fl =>
        cases fl with
        | ret u => exact I1.after hq
        | next => exact False.elim hq
        | brk => exact False.elim hq
        | cont => exact False.elim hq
    · rw [← rv.length, ← t.length, List.drop_length, ← lk, List.drop_length] at e
      simp only [keysK, Except.ok.injEq, Prod.mk.injEq] at e
      obtain ⟨_, rfl⟩ := e
      exact q μ2 H2 d st rl2 nd
theorem s_srtK {e : E} {f : String} {x : Expr} {z : Str} {p p2 kp pos : Pos} (G : Good pg k N XC sc X) (hg : glB sc "sorted" = true) (hg2 : glB sc z = true) (hz : kyB pg f z = true) (ih : PE X x (rdE X.K XC W pg k e)) (hp : plainHd x = true) :
    PE X (.Call (.Name "sorted" p) [x] [⟨some "key", .Name z p2, kp⟩] pos) (rdE X.K XC W pg k (.srtK e f)) := by
  obtain ⟨g1, g2, g3⟩ := G.glob hg
  obtain ⟨k1, k2, k3⟩ := G.glob hg2
  obtain ⟨a, hm, hc⟩ := cr_key G hz
  refine PE.imp (pe_callBK hc g1 (G.bmg (by decide +kernel)) (PyProof.Rows.boot_sorted) (pa_cons ih pa_nil (plain_star hp _ _)) (pk_cons (pe_glob (v := V.ref a) k1 hm rfl k2) pk_nil) (he := by rw [plain_star hp]; rfl) (hpl := plain_any (by simp [hp]))) fun σ H Q hq => ?_
  obtain ⟨B, μ, h0, ρ, rl, sl, pp⟩ := hq
  simp only [evE] at pp
  refine ⟨B, μ, h0, ρ, rl, sl, pp.bnd fun v h1 x1 μ1 H1 _ st1 rl1 rp1 p1 => ?_⟩
  simp only at p1
  split at p1
  · rename_i l hl
    obtain ⟨b, vs, ex, hrd, t⟩ := lview_ok rl1 rp1 hl
    subst ex
    cases hk : keysK (run pg k) f l h1 with
    | error er =>
      rw [hk, keysK_err hk] at p1
      exact p1.elim
    | ok y =>
      rw [hk] at p1
      exact ⟨b, B, μ1, h1, y.2, l, vs, y.1, rfl, rfl, hrd, rl1, t, hk, fun μ2 H2 d st rl2 nd => p1 (.ref d) μ2 _ (st.trans (.new nd)) (rl2.new nd) (.newLst rl2 nd (sortK_reps (t.step st)))⟩
  · exact p1.elim
end
end Rg

namespace Rg
theorem no_tf {p : Prop} (h : false = true) : p := Bool.noConfusion h
open PySem PySem.Spec PyProof.Rows L2
section
variable {pg : Pg} {k : Nat} {N : List Str} {XC : XCT}
theorem with_pt {X : Cx} {W : WX} {e : E} {x : Expr} (h : PE X x (rdE X.K XC W pg k e)) (ht : truHd x = true) : PE X x (rdE X.K XC W pg k e) ∧ PT X x (rdT X.K XC W pg k e) := ⟨h, pt_of h ht⟩
theorem ckEs_len {sc : Scope} : ∀ {es : Es} {xs : List Expr}, ckEs pg N sc es xs = true → xs.length = esLen es
  | .nil, [], _ => rfl
  | .cons e es, x :: xs, h => by
    simp only [ckEs, Bool.and_eq_true] at h
    rw [List.length_cons, ckEs_len h.2]; rfl
  | .nil, _ :: _, h => by simp only [ckEs] at h; cases h
  | .cons _ _, [], h => by simp only [ckEs] at h; cases h
theorem ckEs_nil {sc : Scope} {es : Es} {xs : List Expr} (h : ckEs pg N sc es xs = true) (e : xs = []) : es = .nil := by
  subst e
  cases es with
  | nil => rfl
  | cons _ _ => simp only [ckEs] at h; cases h
mutual
theorem sE : ∀ (e : E) {x : Expr} {sc : Scope} {X : Cx} {W : WX}, ckE pg N sc e x = true → Good pg k N XC sc X → Takes X W → PE X x (rdE X.K XC W pg k e) ∧ PT X x (rdT X.K XC W pg k e)
  | .var i, x, sc, X, W, h, G, tk => by
    cases x with
    | Name y p => simp only [ckE] at h; exact with_pt (s_var G h) rfl
    | _ => exact no_tf h
  | .non, x, sc, X, W, h, G, tk => by
    cases x with
    | Constant c n p =>
      cases c with
      | none =>
        refine with_pt (PE.imp pe_non fun σ H Q hq => ?_) rfl
        obtain ⟨B, μ, h0, ρ, rl, sl, p⟩ := hq
        simp only [evE] at p
        exact p .non μ H .refl rl .non
      | _ => exact no_tf h
    | _ => exact no_tf h
  | .kbl b, x, sc, X, W, h, G, tk => by
    cases x with
    | Constant c n p =>
      cases c with
      | bool d =>
        simp only [ckE, beq_iff_eq] at h
        subst h
        refine with_pt (PE.imp pe_bl fun σ H Q hq => ?_) rfl
        obtain ⟨B, μ, h0, ρ, rl, sl, p⟩ := hq
        simp only [evE] at p
        exact p (.bl b) μ H .refl rl .bl
      | _ => exact no_tf h
    | _ => exact no_tf h
  | .kint i, x, sc, X, W, h, G, tk => by
    cases x with
    | Constant c n p =>
      cases c with
      | int d =>
        simp only [ckE, decide_eq_true_eq] at h
        subst h
        refine with_pt (PE.imp pe_int fun σ H Q hq => ?_) rfl
        obtain ⟨B, μ, h0, ρ, rl, sl, p⟩ := hq
        simp only [evE] at p
        exact p (.int i) μ H .refl rl .int
      | _ => exact no_tf h
    | _ => exact no_tf h
  | .kstr s, x, sc, X, W, h, G, tk => by
    cases x with
    | Constant c n p =>
      cases c with
      | str d =>
        simp only [ckE, Bool.and_eq_true, decide_eq_true_eq] at h
        obtain ⟨⟨h1, h2⟩, h3⟩ := h
        subst h1
        refine with_pt (PE.imp pe_str fun σ H Q hq => ?_) rfl
        obtain ⟨B, μ, h0, ρ, rl, sl, p⟩ := hq
        simp only [evE] at p
        exact p (.str s) μ H .refl rl (Rep.str_iff.mpr ⟨rfl, h2, h3⟩)
      | _ => exact no_tf h
    | _ => exact no_tf h
  | .glb y, x, sc, X, W, h, G, tk => by
    cases x with
    | Name z p =>
      simp only [ckE, Bool.and_eq_true, decide_eq_true_eq] at h
      obtain ⟨h1, h2⟩ := h
      subst h1
      exact with_pt (s_glb G h2) rfl
    | _ => exact no_tf h
  | .bin op a b, x, sc, X, W, h, G, tk => by
    cases x with
    | BinOp l o r p =>
      simp only [ckE, Bool.and_eq_true, decide_eq_true_eq] at h
      obtain ⟨⟨h1, h2⟩, h3⟩ := h
      subst h1
      exact with_pt (s_bin (sE a h2 G tk).1 (sE b h3 G tk).1) rfl
    | _ => exact no_tf h
  | .cmp op a b, x, sc, X, W, h, G, tk => by
    cases x with
    | Compare l os rs p =>
      match os, rs, h with
      | [o], [r], h =>
        simp only [ckE, Bool.and_eq_true, decide_eq_true_eq] at h
        obtain ⟨⟨⟨h1, h2⟩, h3⟩, h4⟩ := h
        subst h1
        exact s_cmp G (sE a h2 G tk).1 (sE b h3 G tk).1 h4
      | [], _, h => exact no_tf h
      | [_], [], h => exact no_tf h
      | [_], _ :: _ :: _, h => exact no_tf h
      | _ :: _ :: _, _, h => exact no_tf h
    | _ => exact no_tf h
  | .chn o1 o2 a b c, x, sc, X, W, h, G, tk => by
    cases x with
    | Compare l os rs p =>
      match os, rs, h with
      | [p1, p2], [r, s], h =>
        simp only [ckE, Bool.and_eq_true, decide_eq_true_eq] at h
        obtain ⟨⟨⟨⟨⟨⟨h1, h2⟩, h3⟩, h4⟩, h5⟩, h6⟩, h7⟩ := h
        subst h1 h2
        exact s_chn G (sE a h3 G tk).1 (sE b h4 G tk).1 (sE c h5 G tk).1 h6 h7
      | [], _, h => exact no_tf h
      | [_], _, h => exact no_tf h
      | [_, _], [], h => exact no_tf h
      | [_, _], [_], h => exact no_tf h
      | [_, _], _ :: _ :: _ :: _, h => exact no_tf h
      | _ :: _ :: _ :: _, _, h => exact no_tf h
    | _ => exact no_tf h
  | .and es, x, sc, X, W, h, G, tk => by
    cases x with
    | BoolOp o xs p =>
      cases o with
      | And =>
        simp only [ckE, Bool.and_eq_true, decide_eq_true_eq] at h
        obtain ⟨h1, h2⟩ := sAnd es h.1 h.2 G tk (pos := p)
        refine ⟨PE.imp h1 fun σ H Q hq => ?_, PT.imp h2.pt fun σ H Q hq => ?_⟩
        · obtain ⟨B, μ, h0, ρ, rl, sl, p⟩ := hq
          exact ⟨B, μ, h0, ρ, rl, sl, by simpa only [evE] using p⟩
        · obtain ⟨B, μ, h0, ρ, rl, sl, p⟩ := hq
          exact ⟨B, μ, h0, ρ, rl, sl, by simpa only [evE] using p⟩
      | Or => exact no_tf h
    | _ => exact no_tf h
  | .or es, x, sc, X, W, h, G, tk => by
    cases x with
    | BoolOp o xs p =>
      cases o with
      | Or =>
        simp only [ckE, Bool.and_eq_true, decide_eq_true_eq] at h
        obtain ⟨h1, h2⟩ := sOr es h.1 h.2 G tk (pos := p)
        refine ⟨PE.imp h1 fun σ H Q hq => ?_, PT.imp h2.pt fun σ H Q hq => ?_⟩
        · obtain ⟨B, μ, h0, ρ, rl, sl, p⟩ := hq
          exact ⟨B, μ, h0, ρ, rl, sl, by simpa only [evE] using p⟩
        · obtain ⟨B, μ, h0, ρ, rl, sl, p⟩ := hq
          exact ⟨B, μ, h0, ρ, rl, sl, by simpa only [evE] using p⟩
      | And => exact no_tf h
    | _ => exact no_tf h
  | .not a, x, sc, X, W, h, G, tk => by
    cases x with
    | UnaryOp o y p =>
      cases o with
      | Not =>
        simp only [ckE] at h
        obtain ⟨h1, h2⟩ := sE a h G tk
        exact s_not h1 h2
      | _ => exact no_tf h
    | _ => exact no_tf h
  | .neg a, x, sc, X, W, h, G, tk => by
    cases x with
    | UnaryOp o y p =>
      cases o with
      | USub =>
        simp only [ckE] at h
        exact with_pt (s_neg (sE a h G tk).1) rfl
      | _ => exact no_tf h
    | _ => exact no_tf h
  | .ife _ _ _, x, sc, X, W, h, G, tk => by cases x <;> (simp only [ckE] at h; cases h)
  | .idx a b, x, sc, X, W, h, G, tk => by
    cases x with
    | Subscript l r p =>
      simp only [ckE, Bool.and_eq_true] at h
      obtain ⟨⟨h1, h2⟩, h3⟩ := h
      exact with_pt (s_idx (by have := G.room.units; omega) (sE a h1 G tk).1 (sE b h2 G tk).1 h3) rfl
    | _ => exact no_tf h
  | .slc a lo hi, x, sc, X, W, h, G, tk => by
    cases x with
    | Subscript l r p =>
      cases r with
      | Slice lw up st p2 =>
        cases st with
        | none =>
          simp only [ckE, Bool.and_eq_true] at h
          obtain ⟨⟨h1, h2⟩, h3⟩ := h
          exact with_pt (s_slc (sE a h1 G tk).1 (sO lo h2 G tk) (sO hi h3 G tk)) rfl
        | some _ => exact no_tf h
      | _ => exact no_tf h
    | _ => exact no_tf h
  | .revT a, x, sc, X, W, h, G, tk => by
    simp only [ckE] at h
    split at h
    · rename_i y n j p1 p2 p3 pos
      simp only [Bool.and_eq_true, decide_eq_true_eq] at h
      obtain ⟨h1, h2⟩ := h
      subst h1
      exact with_pt (s_revT (sE a h2 G tk).1) rfl
    · cases h
  | .slcS a lo n, x, sc, X, W, h, G, tk => by
    simp only [ckE] at h
    split at h
    · rename_i y l m j p1 p2 pos
      simp only [Bool.and_eq_true, decide_eq_true_eq] at h
      obtain ⟨⟨⟨h1, h2⟩, h3⟩, h4⟩ := h
      subst h1
      exact with_pt (s_slcS h2 (sE a h3 G tk).1 (sO lo h4 G tk)) rfl
    · cases h
  | .srtK e f, x, sc, X, W, h, G, tk => by
    simp only [ckE] at h
    split at h
    · rename_i y p z kn w p2 kp pos
      simp only [Bool.and_eq_true, decide_eq_true_eq] at h
      obtain ⟨⟨⟨⟨⟨⟨h1, h2⟩, h3⟩, h4⟩, h5⟩, h6⟩, h7⟩ := h
      subst h1 h5
      exact with_pt (s_srtK G h2 h6 h7 (sE e h3 G tk).1 h4) rfl
    · cases h
  | .lenS e, x, sc, X, W, h, G, tk => by
    simp only [ckE] at h
    split at h
    · rename_i x' y q1
      obtain ⟨p, pos, rfl⟩ := asCall1_ok q1
      simp only [Bool.and_eq_true, decide_eq_true_eq] at h
      obtain ⟨⟨h1, h2⟩, h3⟩ := h
      subst h1
      split at h3
      · rename_i z a q2
        obtain ⟨p2, pos2, rfl⟩ := asCall1_ok q2
        simp only [Bool.and_eq_true, decide_eq_true_eq] at h3
        obtain ⟨⟨⟨g1, g2⟩, g3⟩, g4⟩ := h3
        subst g1
        exact with_pt (s_lenS G h2 g2 (sE e g3 G tk).1 g4) rfl
      · cases h3
    · cases h
  | .tup es, x, sc, X, W, h, G, tk => by
    cases x with
    | Tuple xs n p =>
      simp only [ckE, Bool.and_eq_true, decide_eq_true_eq] at h
      exact with_pt (s_tup (sEs es h.1 G tk) h.2) rfl
    | _ => exact no_tf h
  | .lst es, x, sc, X, W, h, G, tk => by
    cases x with
    | List xs p =>
      simp only [ckE, Bool.and_eq_true, decide_eq_true_eq] at h
      exact with_pt (s_lst (sEs es h.1 G tk) h.2) rfl
    | _ => exact no_tf h
  | .lstM es, x, sc, X, W, h, G, tk => by
    cases x with
    | List xs p =>
      simp only [ckE, Bool.and_eq_true, decide_eq_true_eq] at h
      exact with_pt (s_lstM (sEs es h.1 G tk) h.2) rfl
    | _ => exact no_tf h
  | .lrep e n, x, sc, X, W, h, G, tk => by
    simp only [ckE] at h
    split at h
    · rename_i q1
      obtain ⟨p1, cs, p2, pos, rfl⟩ := asRep_ok q1
      simp only [Bool.and_eq_true, decide_eq_true_eq] at h
      obtain ⟨⟨⟨h2, h3⟩, h4⟩, h5⟩ := h
      subst h4
      exact with_pt (s_lrep (sE e h2 G tk).1 h3 h5) rfl
    · cases h
  | .lrepD e n, x, sc, X, W, h, G, tk => by
    simp only [ckE] at h
    split at h
    · rename_i q1
      obtain ⟨p1, pos, rfl⟩ := asRepD_ok q1
      simp only [Bool.and_eq_true] at h
      obtain ⟨⟨h2, h3⟩, h4⟩ := h
      exact with_pt (s_lrepD (sE e h2 G tk).1 h3 (sE n h4 G tk).1) rfl
    · cases h
  | .mcallV cs nm dd o es, x, sc, X, W, h, G, tk => by
    cases x with
    | Call fn xs kw p =>
      cases fn with
      | Attribute ox m apos =>
        cases kw with
        | nil =>
          simp only [ckE, Bool.and_eq_true, decide_eq_true_eq, List.all_eq_true, Bool.or_eq_true, Bool.not_eq_true'] at h
          obtain ⟨⟨⟨⟨⟨⟨⟨h1, h2⟩, h3⟩, h4⟩, h5⟩, h6⟩, h7⟩, h8⟩ := h
          subst h1
          have io := (sE o h3 G tk).1
          have ie := sEs es h4 G tk
          refine with_pt (s_mcallV h8 fun c f hm => ?_) rfl
          have hc := h5 (c, f) hm
          cases dd with
          | true => exact s_mcallD G tk (hc.2.resolve_left Bool.noConfusion) hc.1 h2 io ie (ckEs_plain h4) (ckEs_nil h4) (by rw [ckEs_len h4]; exact h7) h6
          | false => exact s_mcall G tk hc.1 h2 io ie (ckEs_plain h4) (ckEs_nil h4) (by rw [ckEs_len h4]; exact h7) h6
        | cons _ _ => exact no_tf h
      | _ => exact no_tf h
    | _ => exact no_tf h
  | .fld c e f, x, sc, X, W, h, G, tk => by
    simp only [ckE] at h
    split at h
    · rename_i q1
      obtain ⟨p, rfl⟩ := asAttr_ok q1
      simp only [Bool.and_eq_true, decide_eq_true_eq] at h
      obtain ⟨⟨⟨h1, h2⟩, h3⟩, h4⟩ := h
      subst h1
      exact with_pt (s_fld G h4 h2 (sE e h3 G tk).1) rfl
    · cases h
  | .mcall c nm f o es, x, sc, X, W, h, G, tk => by
    cases x with
    | Call fn xs kw p =>
      cases fn with
      | Attribute ox m apos =>
        cases kw with
        | nil =>
          simp only [ckE, Bool.and_eq_true, decide_eq_true_eq] at h
          obtain ⟨⟨⟨⟨⟨⟨h1, h2⟩, h3⟩, h4⟩, h5⟩, h6⟩, h7⟩ := h
          subst h1
          exact with_pt (s_mcall G tk h5 h2 (sE o h3 G tk).1 (sEs es h4 G tk) (ckEs_plain h4) (ckEs_nil h4) (by rw [ckEs_len h4]; exact h7) h6) rfl
        | cons _ _ => exact no_tf h
      | _ => exact no_tf h
    | _ => exact no_tf h
  | .mcallD c nm f o es, x, sc, X, W, h, G, tk => by
    cases x with
    | Call fn xs kw p =>
      cases fn with
      | Attribute ox m apos =>
        cases kw with
        | nil =>
          simp only [ckE, Bool.and_eq_true, decide_eq_true_eq] at h
          obtain ⟨⟨⟨⟨⟨⟨⟨h1, h2⟩, h3⟩, h4⟩, h5⟩, h6⟩, h7⟩, h8⟩ := h
          subst h1
          exact with_pt (s_mcallD G tk h8 h5 h2 (sE o h3 G tk).1 (sEs es h4 G tk) (ckEs_plain h4) (ckEs_nil h4) (by rw [ckEs_len h4]; exact h7) h6) rfl
        | cons _ _ => exact no_tf h
      | _ => exact no_tf h
    | _ => exact no_tf h
  | .make f es, x, sc, X, W, h, G, tk => by
    cases x with
    | Call fn xs kw p =>
      cases fn with
      | Name y py =>
        cases kw with
        | nil =>
          simp only [ckE, Bool.and_eq_true] at h
          obtain ⟨⟨h1, h2⟩, h3⟩ := h
          exact with_pt (s_make G tk h2 h1 (sEs es h3 G tk) (ckEs_plain h3) (ckEs_nil h3)) rfl
        | cons _ _ => exact no_tf h
      | _ => exact no_tf h
    | _ => exact no_tf h
  | .ddisp ks es, x, sc, X, W, h, G, tk => by
    simp only [ckE] at h
    split at h
    · rename_i q1
      obtain ⟨p, rfl⟩ := asDict_ok q1
      simp only [Bool.and_eq_true, decide_eq_true_eq] at h
      obtain ⟨⟨⟨h1, h2⟩, h3⟩, h4⟩ := h
      exact with_pt (s_ddisp h1 (sPs ks es h1 h2 h4.2.2 G tk p) h3 h4.1 h4.2.1 h4.2.2 (ckEs_len h2)) rfl
    · cases h
  | .dnew, x, sc, X, W, h, G, tk => by
    cases x with
    | Dict ks vs p =>
      cases ks with
      | nil =>
        cases vs with
        | nil => exact with_pt s_dnew rfl
        | cons _ _ => exact no_tf h
      | cons _ _ => exact no_tf h
    | _ => exact no_tf h
  | .dnewT, x, sc, X, W, h, G, tk => by
    cases x with
    | Dict ks vs p =>
      cases ks with
      | nil =>
        cases vs with
        | nil => exact with_pt s_dnewT rfl
        | cons _ _ => exact no_tf h
      | cons _ _ => exact no_tf h
    | _ => exact no_tf h
  | .getT o ks d, x, sc, X, W, h, G, tk => by
    cases x with
    | Call fn ys kw p =>
      cases fn with
      | Attribute ox nm ap =>
        cases kw with
        | nil =>
          match ys, h with
          | [.Tuple xs tn tp, y], h =>
            simp only [ckE, Bool.and_eq_true, decide_eq_true_eq] at h
            obtain ⟨⟨⟨⟨⟨⟨⟨h1, h2⟩, h3⟩, h4⟩, h5⟩, h6⟩, h7⟩, h8⟩ := h
            subst h1
            exact with_pt (s_getT (by have := G.room.units; omega) (sE o h3 G tk).1 (sEs ks h4 G tk) (sE d h5 G tk).1 h8 h6 h2 h7) rfl
        | cons _ _ => simp [ckE] at h
      | _ => simp [ckE] at h
    | _ => simp [ckE] at h
  | .callP f es, x, sc, X, W, h, G, tk => by
    cases x with
    | Call fn xs kw p =>
      cases fn with
      | Name y py =>
        cases kw with
        | nil =>
          simp only [ckE, Bool.and_eq_true] at h
          obtain ⟨⟨h1, h2⟩, h3⟩ := h
          exact with_pt (s_callP G tk h2 h1 (sEs es h3 G tk) (ckEs_plain h3) (ckEs_nil h3)) rfl
        | cons _ _ => exact no_tf h
      | _ => exact no_tf h
    | _ => exact no_tf h
  | .callH f es, x, sc, X, W, h, G, tk => by
    cases x with
    | Call fn xs kw p =>
      cases fn with
      | Name y py =>
        cases kw with
        | nil =>
          simp only [ckE, Bool.and_eq_true] at h
          obtain ⟨⟨h1, h2⟩, h3⟩ := h
          exact with_pt (s_callH G tk h2 h1 (sEs es h3 G tk) (ckEs_plain h3) (ckEs_nil h3)) rfl
        | cons _ _ => exact no_tf h
      | _ => exact no_tf h
    | _ => exact no_tf h
  | .blt f es, x, sc, X, W, h, G, tk => by
    cases x with
    | Call fn xs kw p =>
      cases fn with
      | Name y py =>
        cases kw with
        | nil =>
          simp only [ckE, Bool.and_eq_true, decide_eq_true_eq] at h
          obtain ⟨⟨⟨h1, h2⟩, h3⟩, h4⟩ := h
          exact with_pt (s_blt G h2 h1 (sEs es h3 G tk) (ckEs_plain h3) (by rw [ckEs_len h3]; exact h4)) rfl
        | cons _ _ => exact no_tf h
      | _ => exact no_tf h
    | _ => exact no_tf h
  | .isi e t, x, sc, X, W, h, G, tk => by
    simp only [ckE] at h
    split at h
    · rename_i q1
      split at h
      · rename_i q2
        obtain ⟨p, pos, rfl⟩ := asCall2_ok q1
        obtain ⟨p2, rfl⟩ := asName_ok q2
        simp only [Bool.and_eq_true, decide_eq_true_eq] at h
        obtain ⟨⟨⟨⟨⟨h1, h2⟩, h3⟩, h4⟩, h5⟩, h6⟩ := h
        exact with_pt (s_isi G h2 h1 h6 h5 (sE e h3 G tk).1 h4) rfl
      · cases h
    · cases h
  | .isiT e ts, x, sc, X, W, h, G, tk => by
    simp only [ckE] at h
    split at h
    · rename_i q1
      split at h
      · rename_i q2
        obtain ⟨p, pos, rfl⟩ := asCall2_ok q1
        obtain ⟨n, p2, rfl⟩ := asTup_ok q2
        simp only [Bool.and_eq_true, decide_eq_true_eq] at h
        obtain ⟨⟨⟨⟨⟨h1, h2⟩, h3⟩, h4⟩, h5⟩, h6⟩ := h
        exact with_pt (s_isiT G h2 h1 h5 h6 (sE e h3 G tk).1 h4) rfl
      · cases h
    · cases h
  | .mth m o es, x, sc, X, W, h, G, tk => by
    cases x with
    | Call fn xs kw p =>
      cases fn with
      | Attribute ox nm ap =>
        cases kw with
        | nil =>
          simp only [ckE, Bool.and_eq_true, decide_eq_true_eq] at h
          obtain ⟨⟨⟨⟨⟨h1, h2⟩, h3⟩, h4⟩, h5⟩, h6⟩ := h
          subst h1
          exact with_pt (s_mth (by have := G.room.units; omega) (sE o h3 G tk).1 (sEs es h4 G tk) (ckEs_plain h4) (by rw [ckEs_len h4]; exact h6) (ckEs_nil h4) h2 h5) rfl
        | cons _ _ => simp [ckE] at h
      | _ => simp [ckE] at h
    | _ => simp [ckE] at h
  | .dnewN, x, sc, X, W, h, G, tk => by
    cases x with
    | Dict ks vs p =>
      cases ks with
      | nil =>
        cases vs with
        | nil => exact with_pt s_dnewN rfl
        | cons _ _ => exact no_tf h
      | cons _ _ => exact no_tf h
    | _ => exact no_tf h
  | .getN o es, x, sc, X, W, h, G, tk => by
    cases x with
    | Call fn xs kw p =>
      cases fn with
      | Attribute ox nm ap =>
        cases kw with
        | nil =>
          simp only [ckE, Bool.and_eq_true, decide_eq_true_eq] at h
          obtain ⟨⟨⟨⟨⟨h1, h2⟩, h3⟩, h4⟩, h5⟩, h6⟩ := h
          subst h1
          have hl := ckEs_len h4
          cases xs with
          | nil => simp at hl; omega
          | cons y ys => exact with_pt (s_getN (by have := G.room.units; omega) (sE o h3 G tk).1 (sEs es h4 G tk) (ckEs_plain h4) (by rw [List.length_cons] at hl; omega) h2 h5) rfl
        | cons _ _ => simp [ckE] at h
      | _ => simp [ckE] at h
    | _ => simp [ckE] at h
  | .spc1 m f e, x, sc, X, W, h, G, tk => by
    simp only [ckE] at h
    split at h
    · rename_i x' y q1
      obtain ⟨p, pos, rfl⟩ := asCall1_ok q1
      simp only [Bool.and_eq_true, decide_eq_true_eq] at h
      obtain ⟨⟨h1, h2⟩, h3⟩ := h
      subst h1
      split at h3
      · rename_i hf
        simp only [decide_eq_true_eq] at hf
        subst hf
        simp only [Bool.and_eq_true] at h3
        exact with_pt (s_spc_copy G h2 (sE e h3.1 G tk).1 h3.2) rfl
      · rename_i hf
        simp only [decide_eq_false_iff_not] at hf
        split at h3
        · rename_i z a q2
          obtain ⟨p2, pos2, rfl⟩ := asCall1_ok q2
          simp only [Bool.and_eq_true, decide_eq_true_eq] at h3
          obtain ⟨⟨⟨⟨g1, g2⟩, g3⟩, g4⟩, g5⟩ := h3
          subst g1
          cases f with
          | rng1 => exact with_pt (s_spc_rng1 G h2 g2 (sE e g3 G tk).1 g4) rfl
          | rev => exact with_pt (s_spc_rev G h2 g2 (sE e g3 G tk).1 g4) rfl
          | rng2 => exact absurd rfl g5
          | copy => exact absurd rfl hf
        · cases h3
    · cases h
  | .spc2 m a b, x, sc, X, W, h, G, tk => by
    simp only [ckE] at h
    split at h
    · rename_i x' y q1
      obtain ⟨p, pos, rfl⟩ := asCall1_ok q1
      simp only [Bool.and_eq_true, decide_eq_true_eq] at h
      obtain ⟨⟨h1, h2⟩, h3⟩ := h
      subst h1
      split at h3
      · rename_i z u v q2
        obtain ⟨p2, pos2, rfl⟩ := asCall2_ok q2
        simp only [Bool.and_eq_true, decide_eq_true_eq] at h3
        obtain ⟨⟨⟨⟨⟨g1, g2⟩, g3⟩, g4⟩, g5⟩, g6⟩ := h3
        subst g1
        exact with_pt (s_spc_rng2 G h2 g2 (sE a g3 G tk).1 (sE b g5 G tk).1 g4 g6) rfl
      · cases h3
    · cases h
  | .sth f o es, x, sc, X, W, h, G, tk => by
    cases x with
    | Call fn xs kw p =>
      cases fn with
      | Attribute ox nm ap =>
        cases kw with
        | nil =>
          simp only [ckE, Bool.and_eq_true, decide_eq_true_eq] at h
          obtain ⟨⟨⟨⟨⟨h1, h2⟩, h3⟩, h4⟩, h5⟩, h6⟩ := h
          subst h1
          exact with_pt (s_sth (sE o h3 G tk).1 (sEs es h4 G tk) (ckEs_plain h4) (by rw [ckEs_len h4]; exact h6) (ckEs_nil h4) h2 h5) rfl
        | cons _ _ => simp [ckE] at h
      | _ => simp [ckE] at h
    | _ => simp [ckE] at h
  | .comp m elt tg it ifs own, x, sc, X, W, h, G, tk => by
    simp only [ckE] at h
    split at h
    · cases h
    · rename_i q1
      obtain ⟨p, rfl⟩ := asComp_ok q1
      simp only [Bool.and_eq_true, decide_eq_true_eq] at h
      obtain ⟨⟨⟨⟨⟨⟨h1, h2⟩, h3⟩, h4⟩, h5⟩, h6⟩, h7⟩ := h
      obtain ⟨hi, hfold⟩ := sI it h5 G tk
      refine with_pt (s_comp G h1 h3 h4 hi (hfold X.env) (by
        cases ifs with
        | nil => exact .inl rfl
        | cons e es' =>
          cases es' with
          | nil => exact .inr ⟨e, rfl⟩
          | cons _ _ => simp only [esLen] at h7; omega) (fun X' G' hK hw => ?_) fun X' G' hK hw => ?_) rfl
      · rw [← rdTs_eq hK hw]; exact sTs ifs h6 h7 G'
      · rw [← rdE_eq hK hw]; exact (sE elt h2 G' takes0).1
  | .lck i e, x, sc, X, W, h, G, tk => by
    simp only [ckE, Bool.and_eq_true] at h
    exact with_pt (s_lck (sE e h.2 G tk).1) h.1
theorem sPs : ∀ (ks : List L2.Key) (es : Es) {kx : List (Option Expr)} {vx : List Expr} {sc : Scope} {X : Cx} {W : WX}, keysB ks kx = true → ckEs pg N sc es vx = true → esLen es = ks.length → Good pg k N XC sc X → Takes X W → ∀ pos, PPs X pos kx vx (trsOf X.K XC W pg k ks es)
  | [], .nil, kx, vx, sc, X, W, hk, h, _, G, tk, pos => by
    cases kx with
    | nil =>
      cases vx with
      | nil => exact pps_nil
      | cons _ _ => simp only [ckEs] at h; cases h
    | cons _ _ => simp [keysB] at hk
  | [], .cons _ _, kx, vx, sc, X, W, hk, h, hl, G, tk, pos => by simp [esLen] at hl
  | _ :: _, .nil, kx, vx, sc, X, W, hk, h, hl, G, tk, pos => by simp [esLen] at hl
  | j :: ks, .cons e es, kx, vx, sc, X, W, hk, h, hl, G, tk, pos => by
    cases kx with
    | nil => simp [keysB] at hk
    | cons x kx =>
      cases vx with
      | nil => simp only [ckEs] at h; cases h
      | cons v vx =>
        simp only [keysB, Bool.and_eq_true] at hk
        simp only [ckEs, Bool.and_eq_true] at h
        cases x with
        | none => cases j <;> simp [keyB] at hk
        | some x =>
          exact pps_cons (pe_key hk.1) (sE e h.1.1 G tk).1 (sPs ks es hk.2 h.2 (by simp only [esLen, List.length_cons] at hl; omega) G tk pos)
theorem sEs : ∀ (es : Es) {xs : List Expr} {sc : Scope} {X : Cx} {W : WX}, ckEs pg N sc es xs = true → Good pg k N XC sc X → Takes X W → PA X xs (rdEs X.K XC W pg k es)
  | .nil, xs, sc, X, W, h, G, tk => by
    cases xs with
    | nil => exact s_anil
    | cons _ _ => simp only [ckEs] at h; cases h
  | .cons e es, xs, sc, X, W, h, G, tk => by
    cases xs with
    | nil => simp only [ckEs] at h; cases h
    | cons x xs =>
      simp only [ckEs, Bool.and_eq_true] at h
      exact s_acons (sE e h.1.1 G tk).1 (sEs es h.2 G tk) h.1.2
theorem sAnd : ∀ (es : Es) {xs : List Expr} {sc : Scope} {X : Cx} {W : WX} {pos : Pos}, ckEs pg N sc es xs = true → 0 < esLen es → Good pg k N XC sc X → Takes X W → PE X (.BoolOp .And xs pos) (rdAnd X.K XC W pg k es) ∧ PW X (.BoolOp .And xs pos) (rdAndT X.K XC W pg k es)
  | .nil, xs, sc, X, W, pos, h, hl, G, tk => absurd hl (by simp [esLen])
  | .cons e .nil, xs, sc, X, W, pos, h, hl, G, tk => by
    cases xs with
    | nil => simp only [ckEs] at h; cases h
    | cons x xs =>
      simp only [ckEs, Bool.and_eq_true] at h
      obtain ⟨h1, h2⟩ := sE e h.1.1 G tk
      cases xs with
      | nil => exact s_and1 h1 h2
      | cons _ _ => have z := h.2; simp only [ckEs] at z; cases z
  | .cons e (.cons e2 es), xs, sc, X, W, pos, h, hl, G, tk => by
    cases xs with
    | nil => simp only [ckEs] at h; cases h
    | cons x xs =>
      have hh := h
      rw [ckEs] at hh
      simp only [Bool.and_eq_true] at hh
      obtain ⟨h1, h2⟩ := sE e hh.1.1 G tk
      cases xs with
      | nil => have z := hh.2; simp only [ckEs] at z; cases z
      | cons y ys => exact s_andc h1 h2 (sAnd (.cons e2 es) hh.2 (by simp [esLen]) G tk)
theorem sOr : ∀ (es : Es) {xs : List Expr} {sc : Scope} {X : Cx} {W : WX} {pos : Pos}, ckEs pg N sc es xs = true → 0 < esLen es → Good pg k N XC sc X → Takes X W → PE X (.BoolOp .Or xs pos) (rdOr X.K XC W pg k es) ∧ PW X (.BoolOp .Or xs pos) (rdOrT X.K XC W pg k es)
  | .nil, xs, sc, X, W, pos, h, hl, G, tk => absurd hl (by simp [esLen])
  | .cons e .nil, xs, sc, X, W, pos, h, hl, G, tk => by
    cases xs with
    | nil => simp only [ckEs] at h; cases h
    | cons x xs =>
      simp only [ckEs, Bool.and_eq_true] at h
      obtain ⟨h1, h2⟩ := sE e h.1.1 G tk
      cases xs with
      | nil => exact s_or1 h1 h2
      | cons _ _ => have z := h.2; simp only [ckEs] at z; cases z
  | .cons e (.cons e2 es), xs, sc, X, W, pos, h, hl, G, tk => by
    cases xs with
    | nil => simp only [ckEs] at h; cases h
    | cons x xs =>
      have hh := h
      rw [ckEs] at hh
      simp only [Bool.and_eq_true] at hh
      obtain ⟨h1, h2⟩ := sE e hh.1.1 G tk
      cases xs with
      | nil => have z := hh.2; simp only [ckEs] at z; cases z
      | cons y ys => exact s_orc h1 h2 (sOr (.cons e2 es) hh.2 (by simp [esLen]) G tk)
theorem sTs : ∀ (es : Es) {xs : List Expr} {sc : Scope} {X : Cx}, ckEs pg N sc es xs = true → esLen es ≤ 1 → Good pg k N XC sc X → PTs X xs (rdTs X.K XC pg k es)
  | .nil, xs, sc, X, h, hl, G => by
    cases xs with
    | nil => exact pts_nil
    | cons _ _ => simp only [ckEs] at h; cases h
  | .cons e es, xs, sc, X, h, hl, G => by
    cases xs with
    | nil => simp only [ckEs] at h; cases h
    | cons x xs =>
      simp only [ckEs, Bool.and_eq_true] at h
      have h2 := (sE e h.1.1 G (takes0 (X := X))).2
      have l := ckEs_len h.2
      have : xs = [] := by
        cases xs with
        | nil => rfl
        | cons _ _ => simp only [esLen, List.length_cons] at hl l; omega
      subst this
      exact pts_one h2
theorem sO : ∀ (o : Oe) {x : Option Expr} {sc : Scope} {X : Cx} {W : WX}, ckO pg N sc o x = true → Good pg k N XC sc X → Takes X W → PO X x (rdO X.K XC W pg k o)
  | .no, x, sc, X, W, h, G, tk => by
    cases x with
    | none => exact s_onone
    | some _ => simp only [ckO] at h; cases h
  | .yes e, x, sc, X, W, h, G, tk => by
    cases x with
    | none => simp only [ckO] at h; cases h
    | some y => simp only [ckO] at h; exact s_osome (sE e h G tk).1
theorem sI : ∀ (it : It) {tx x : Expr} {sc : Scope} {X : Cx} {W : WX}, ckI pg N sc it tx x = true → Good pg k N XC sc X → Takes X W → PI X tx x (rdI X.K XC W pg k it) ∧ ∀ env v, foldedSetIterable x env v = pure v
  | .seq e, tx, x, sc, X, W, h, G, tk => by
    simp only [ckI, Bool.and_eq_true] at h
    exact ⟨s_iseq (sE e h.1 G tk).1, fun env v => plain_folded h.2 env v⟩
  | .rng1 e, tx, x, sc, X, W, h, G, tk => by
    simp only [ckI] at h
    split at h
    · cases h
    · rename_i q1
      obtain ⟨p, pos, rfl⟩ := asCall1_ok q1
      simp only [Bool.and_eq_true, decide_eq_true_eq] at h
      obtain ⟨⟨⟨h1, h2⟩, h3⟩, h4⟩ := h
      exact ⟨s_irng1 G h2 h1 (sE e h3 G tk).1 h4, fun _ _ => rfl⟩
  | .rng2 a b, tx, x, sc, X, W, h, G, tk => by
    simp only [ckI] at h
    split at h
    · cases h
    · rename_i q1
      obtain ⟨p, pos, rfl⟩ := asCall2_ok q1
      simp only [Bool.and_eq_true, decide_eq_true_eq] at h
      obtain ⟨⟨⟨⟨⟨h1, h2⟩, h3⟩, h4⟩, h5⟩, h6⟩ := h
      exact ⟨s_irng2 G h2 h1 (sE a h3 G tk).1 (sE b h5 G tk).1 h4 h6, fun _ _ => rfl⟩
  | .enm e, tx, x, sc, X, W, h, G, tk => by
    simp only [ckI] at h
    split at h
    · rename_i q0 q1
      obtain ⟨n, p2, rfl⟩ := asTup_ok q0
      obtain ⟨p, pos, rfl⟩ := asCall1_ok q1
      simp only [Bool.and_eq_true, decide_eq_true_eq] at h
      obtain ⟨⟨⟨h1, h2⟩, h3⟩, h4⟩ := h
      exact ⟨s_ienm G h2 h1 (sE e h3 G tk).1 h4, fun _ _ => rfl⟩
    · cases h
  | .zip a b, tx, x, sc, X, W, h, G, tk => by
    simp only [ckI] at h
    split at h
    · rename_i q0 q1
      obtain ⟨n, p2, rfl⟩ := asTup_ok q0
      obtain ⟨p, pos, rfl⟩ := asCall2_ok q1
      simp only [Bool.and_eq_true, decide_eq_true_eq] at h
      obtain ⟨⟨⟨⟨⟨h1, h2⟩, h3⟩, h4⟩, h5⟩, h6⟩ := h
      exact ⟨s_izip G h2 h1 (sE a h3 G tk).1 (sE b h5 G tk).1 h4 h6, fun _ _ => rfl⟩
    · cases h
  | .dks e, tx, x, sc, X, W, h, G, tk => by
    simp only [ckI, Bool.and_eq_true] at h
    exact ⟨s_idks (sE e h.1 G tk).1, fun env v => plain_folded h.2 env v⟩
  | .dksN e, tx, x, sc, X, W, h, G, tk => by
    simp only [ckI, Bool.and_eq_true] at h
    exact ⟨s_idksN (sE e h.1 G tk).1, fun env v => plain_folded h.2 env v⟩
end
end
end Rg

namespace Rg
open PySem PySem.Spec PyProof.Rows L2

def EndF (K : PySem.W.Frag) [Wd K] (B : List Addr) (XC : XCT) (W : WX) (D : Ends) : Fl → L2.St → List Addr → Hp → Prop
  | .nx, σ, _, H => D.nx σ H
  | .ret v, _, μ, H => ∀ x, Rep K B μ H v x → D.rt x H
  | .bk, σ, _, H => D.bk σ H
  | .ct, σ, _, H => D.ct σ H
  | .ex c, σ, _, H => ∀ cls d, XC c cls d → W cls d σ H
def PostS (K : PySem.W.Frag) [Wd K] (B : List Addr) (XC : XCT) (W : WX) (D : Ends) (r : R (Fl × Slts × MH)) (μ : List Addr) (H : Hp) : Prop :=
  match r with
  | .ok (f, ρ', h') => ∀ σ' μ' H', Step μ H μ' H' → Rel K B μ' h' H' → Slots K B μ' H' ρ' σ' → EndF K B XC W D f σ' μ' H'
  | .error _ => False
section
variable {K : PySem.W.Frag} [Wd K] {B : List Addr} {XC : XCT} {W : WX} {D : Ends} {μ μ1 : List Addr} {H H1 : Hp} {σ : L2.St} {ρ : Slts}
theorem PostS.step {r : R (Fl × Slts × MH)} (p : PostS K B XC W D r μ H) (s : Step μ H μ1 H1) : PostS K B XC W D r μ1 H1 := by
  unfold PostS at p ⊢
  match r, p with
  | .ok (f, ρ', h'), p => exact fun σ' μ' H' t rl sl => p σ' μ' H' (s.trans t) rl sl
  | .error _, p => exact p
theorem PostS.bnd {α β : Type} {rel : List Addr → Hp → α → β → Prop} {Q : β → Hp → Prop} {x : R (α × MH)} {f : α × MH → R (Fl × Slts × MH)} (sl : Slots K B μ H ρ σ) (p : PostS K B XC W D (exF ρ x f) μ H)
    (k : ∀ v h1 y μ1 H1, x = .ok (v, h1) → Step μ H μ1 H1 → Rel K B μ1 h1 H1 → rel μ1 H1 v y → PostS K B XC W D (f (v, h1)) μ1 H1 → Q y H1) : PostG K B XC W σ rel Q x μ H := by
  match x, p with
  | .ok (v, h1), p => exact fun y μ' H' st rl rp => k v h1 y μ' H' rfl st rl rp (PostS.step p st)
  | .error .stuck, p => exact p
  | .error (.exc c h1), p => exact fun cls d μ' H' st rl xc => p σ μ' H' st rl (sl.step st) cls d xc
/-- a test, then what follows -/
theorem PostS.tst {Q : Bool → Hp → Prop} {x : R (PV × MH)} {f : Bool → MH → R (Fl × Slts × MH)} (sl : Slots K B μ H ρ σ) (p : PostS K B XC W D (exF ρ x fun y => Rg.bnd (truR y.1 y.2) fun t => f t y.2) μ H)
    (k : ∀ t h1 μ1 H1, Step μ H μ1 H1 → Rel K B μ1 h1 H1 → PostS K B XC W D (f t h1) μ1 H1 → Q t H1) : PostG K B XC W σ (fun _ _ a b => a = b) Q (Rg.bnd x fun y => Rg.bnd (truR y.1 y.2) fun t => .ok (t, y.2)) μ H := by
  match x, p with
  | .ok (v, h1), p =>
    simp only [exF, bnd_ok] at p ⊢
    cases e : truR v h1 with
    | error er => rw [e] at p; exact p.elim
    | ok t =>
      rw [e] at p
      simp only [bnd_ok] at p ⊢
      intro y μ' H' st rl rp
      subst rp
      exact k t h1 μ' H' st rl (PostS.step p st)
  | .error .stuck, p => exact p
  | .error (.exc c h1), p => exact fun cls d μ' H' st rl xc => p σ μ' H' st rl (sl.step st) cls d xc
theorem PostS.ok {f : Fl} {h : MH} (p : PostS K B XC W D (.ok (f, ρ, h)) μ H) (rl : Rel K B μ h H) (sl : Slots K B μ H ρ σ) : EndF K B XC W D f σ μ H := p σ μ H .refl rl sl
end
def rdS (K : PySem.W.Frag) [Wd K] (XC : XCT) (W : WX) (pg : Pg) (k : Nat) (s : S) : TS := fun D σ H => ∃ B μ h ρ, Rel K B μ h H ∧ Slots K B μ H ρ σ ∧ PostS K B XC W D (evS (run pg k) pg.gl s ρ h) μ H
def rdSs (K : PySem.W.Frag) [Wd K] (XC : XCT) (W : WX) (pg : Pg) (k : Nat) (s : Ss) : TS := fun D σ H => ∃ B μ h ρ, Rel K B μ h H ∧ Slots K B μ H ρ σ ∧ PostS K B XC W D (evSs (run pg k) pg.gl s ρ h) μ H
theorem PS.imp {X : Cx} {x : Stmt} {t t' : TS} (h : PS X x t) (i : ∀ D σ H, t' D σ H → t D σ H) : PS X x t' := ⟨fun pins s σ H D I q => h.run pins s σ H D I (i _ _ _ q)⟩
theorem PSs.imp {X : Cx} {x : List Stmt} {t t' : TS} (h : PSs X x t) (i : ∀ D σ H, t' D σ H → t D σ H) : PSs X x t' := ⟨fun pins s σ H D I q => h.run pins s σ H D I (i _ _ _ q)⟩

section
variable {pg : Pg} {k : Nat} {N : List Str} {XC : XCT} {sc : Scope} {X : Cx} {W : WX} {pos : Pos}
theorem put_le {κ : Type} [DecidableEq κ] {l : List (κ × PV)} {k : κ} {v : PV} : (putP l k v).length ≤ l.length + 1 := by
  unfold putP
  split
  · simp
  · simp
theorem set_rule (hu : X.A.units + 64 < cLine) : PSet X (fun o i v H Q => ∃ B μ h a b c h', Rel X.K B μ h H ∧ Rep X.K B μ H a o ∧ Rep X.K B μ H b i ∧ Rep X.K B μ H c v ∧ setop a b c h = .ok h' ∧ ∀ μ' H', Step μ H μ' H' → Rel X.K B μ' h' H' → Q H') := by
  intro pins s σ H o i v ov iv u Q I r1 r2 r3 hq
  obtain ⟨B, μ, h, a, b, c, h', rl, ra, rb, rc, e, q⟩ := hq
  have hb : big ≤ sizeLine := big_le
  cases a with
  | ref n =>
    simp only [setop] at e
    cases hc : h[n]? with
    | none => rw [hc] at e; cases e
    | some cl =>
      rw [hc] at e
      cases cl with
      | lst l =>
        simp only at e
        cases b with
        | int kk =>
          simp only at e
          split at e
          · rename_i j ej
            cases e
            obtain ⟨p, vs, hp, hH, t⟩ := rl.lst hc
            obtain ⟨p', rfl, hm⟩ := Rep.ref_iff.mp ra
            rw [hp] at hm; cases hm
            exact set_list pins s σ H _ _ _ _ _ _ _ I r1 r2 r3 ⟨p, vs, kk, j, rfl, Rep.int_iff.mp rb, hH, by rw [← t.length]; exact ej, q μ _ (.write hp (nfz hH)) (rl.write hp (nfz hH) (t.set j rc))⟩
          · cases e
        | _ => simp only at e; cases e
      | fz l => simp only at e; cases e
      | fzN l => simp only at e; cases e
      | dct l =>
        simp only at e
        split at e
        · rename_i k hk
          split at e
          · rename_i hz
            cases e
            obtain ⟨p, kvs, hp, hH, h2, h3⟩ := rl.dct hc
            obtain ⟨p', rfl, hm⟩ := Rep.ref_iff.mp ra
            rw [hp] at hm; cases hm
            obtain rfl : ov = Value.ref p := r1
            have kx := keyP_V rb hk
            subst kx
            have hl : kvs.length < sizeLine := by rw [dct_len h2.1]; omega
            obtain ⟨d1, d2⟩ := dct_put rc k h2.1 h3
            exact d_setItem (by omega) I (DPut.k hH hl) r2 r3 fun s' I' => ⟨_, I', q μ _ (.write hp (nfz hH)) (rl.writeD hp (nfz hH) ⟨d1, keys_put h2.2 (keyP_good rb hk)⟩ d2)⟩
          · cases e
        · cases e
      | dcN l =>
        simp only at e
        split at e
        · rename_i k hk
          split at e
          · rename_i hz
            cases e
            obtain ⟨p, xs, vs, hp, hH, h2, h3, h4, h5, h6⟩ := rl.dcN hc
            obtain ⟨p', rfl, hm⟩ := Rep.ref_iff.mp ra
            rw [hp] at hm; cases hm
            obtain rfl : ov = Value.ref p := r1
            obtain ⟨b', ex, eu, kk⟩ := nk_key I rb hk r2
            subst ex eu
            have dd := dictN I hH (by rw [h3.1]; exact h3.2) h4
            have hl : xs.length < sizeLine := by rw [n_len h3.1]; omega
            obtain ⟨d1, vs', d2, d3⟩ := n_put (k := k) (b := b') rc r3 h3.1 h5 h6
            refine n_setItem hu I hH h2.2 dd kk fun nd s' I' => ⟨_, I', q μ _ (.write hp (nfz hH)) (rl.writeN hp (nfz hH) ⟨h2.1, ?_⟩ ⟨d1, by rw [← d1]; exact nd⟩ ?_ d2 d3)⟩
            · have := n_len d1
              have := put_le (l := l) (k := k) (v := c)
              rw [n_len h3.1] at hl
              omega
            · obtain ⟨e1, e2, _⟩ := nkey_ok hk
              exact n_keys (P := fun k b => Rep X.K B μ H (nkV k) (.ref b) ∧ k.depth ≤ 8) h4 ⟨by rw [e1]; exact rb, e2⟩
          · cases e
        · cases e
      | dcT l => simp only at e; cases e
      | obj c fs => simp only at e; cases e
  | _ => simp only [setop] at e; cases e
theorem s_expr {e : E} {x : Expr} (ih : PE X x (rdE X.K XC W pg k e)) (hs : swapsWith x none pos.line X.env = pure false) : PS X (.Expr x pos) (rdS X.K XC W pg k (.expr e)) := by
  refine PS.imp (ps_expr ih hs) fun D σ H hq => ?_
  obtain ⟨B, μ, h0, ρ, rl, sl, p⟩ := hq
  simp only [evS] at p
  exact ⟨B, μ, h0, ρ, rl, sl, PostS.bnd sl p fun v h1 y μ1 H1 _ st rl1 rp1 p1 => p1.ok rl1 (sl.step st)⟩
theorem s_ret {e : E} {x : Expr} (ih : PE X x (rdE X.K XC W pg k e)) : PS X (.Return (some x) pos) (rdS X.K XC W pg k (.ret e)) := by
  refine PS.imp (ps_ret ih) fun D σ H hq => ?_
  obtain ⟨B, μ, h0, ρ, rl, sl, p⟩ := hq
  simp only [evS] at p
  exact ⟨B, μ, h0, ρ, rl, sl, PostS.bnd sl p fun v h1 y μ1 H1 _ st rl1 rp1 p1 => p1.ok rl1 (sl.step st) y rp1⟩
theorem s_retN : PS X (.Return none pos) (rdS X.K XC W pg k .retN) := by
  refine PS.imp ps_retN fun D σ H hq => ?_
  obtain ⟨B, μ, h0, ρ, rl, sl, p⟩ := hq
  simp only [evS] at p
  exact p.ok rl sl .non .non
theorem s_pass' {st : Stmt} (h : PS X st tNext) : PS X st (rdS X.K XC W pg k .pass) := by
  refine PS.imp h fun D σ H hq => ?_
  obtain ⟨B, μ, h0, ρ, rl, sl, p⟩ := hq
  simp only [evS] at p
  exact p.ok rl sl
theorem s_brk : PS X (.Break pos) (rdS X.K XC W pg k .brk) := by
  refine PS.imp ps_break fun D σ H hq => ?_
  obtain ⟨B, μ, h0, ρ, rl, sl, p⟩ := hq
  simp only [evS] at p
  exact p.ok rl sl
theorem s_cnt : PS X (.Continue pos) (rdS X.K XC W pg k .cnt) := by
  refine PS.imp ps_continue fun D σ H hq => ?_
  obtain ⟨B, μ, h0, ρ, rl, sl, p⟩ := hq
  simp only [evS] at p
  exact p.ok rl sl
theorem tAsg_main {t : Tg} {e : E} {te : TE} (hte : ∀ σ H Q, rdE X.K XC W pg k e σ H Q → te σ H Q) (D : Ends) (σ : L2.St) (H : Hp) (hq : rdS X.K XC W pg k (.asg t e) D σ H) : tAsg te (rdG X.K t) D σ H := by
  obtain ⟨B, μ, h0, ρ, rl, sl, p⟩ := hq
  simp only [evS] at p
  refine hte σ H _ ⟨B, μ, h0, ρ, rl, sl, PostS.bnd sl p fun v h1 y μ1 H1 _ st rl1 rp1 p1 => ?_⟩
  simp only at p1
  cases eb : bindT t v ρ with
  | error er => rw [eb] at p1; exact p1.elim
  | ok ρ' =>
    rw [eb] at p1
    exact bind_ok eb rp1 (sl.step st) fun σ' sl' _ => p1.ok rl1 sl'
theorem s_asg {t : Tg} {e : E} {tg x : Expr} (G : Good pg k N XC sc X) (ih : PE X x (rdE X.K XC W pg k e)) (hg : tgB N sc t tg = true) (hp : plainHd tg = true) (hs : swapsWithSole [tg] x pos.line X.env = pure false) (hw : swappedStores [tg] x X.env = pure none) :
    PS X (.Assign [tg] x pos) (rdS X.K XC W pg k (.asg t e)) :=
  PS.imp (ps_asg ih (s_tg G hg) hs hw (by rw [plain_asg hp]; rfl)) fun D σ H hq => tAsg_main (fun _ _ _ z => z) D σ H hq
theorem s_aug {i : Nat} {y : Str} {e : E} {x : Expr} {p2 : Pos} (G : Good pg k N XC sc X) (hy : ltB N sc i y = true) (ih : PE X x (rdE X.K XC W pg k e)) : PS X (.AugAssign (.Name y p2) .Add x pos) (rdS X.K XC W pg k (.aug i e)) := by
  unfold ltB at hy
  simp only [Bool.and_eq_true, decide_eq_true_eq] at hy
  obtain ⟨h1, h2⟩ := G.loc y hy.2
  refine PS.imp (ps_aug (by rw [G.hN]; exact G.nd) (by rw [G.hN]; exact hy.1) h1 ih ip_add h2) fun D σ H hq => ?_
  obtain ⟨B, μ, h0, ρ, rl, sl, p⟩ := hq
  simp only [evS] at p
  split at p
  · rename_i v ev
    obtain ⟨z, ez, rz⟩ := sl.2 i v ev
    refine ⟨z, ez, B, μ, h0, ρ, rl, sl, PostS.bnd sl p fun w h1 y μ1 H1 _ st rl1 rp1 p1 => ?_⟩
    simp only at p1
    split at p1
    · refine ⟨_, _, Rep.int_iff.mp rz, Rep.int_iff.mp rp1, p1.ok rl1 ((sl.step st).set .int i)⟩
    · exact p1.elim
  · exact p.elim
theorem s_sub {o i e : E} {ox ix x : Expr} {p2 : Pos} (hu : X.A.units + 64 < cLine) (iho : PE X ox (rdE X.K XC W pg k o)) (ihi : PE X ix (rdE X.K XC W pg k i)) (ih : PE X x (rdE X.K XC W pg k e)) (hp : plainHd ix = true)
    (hs : swapsWithSole [.Subscript ox ix p2] x pos.line X.env = pure false) (hw : swappedStores [.Subscript ox ix p2] x X.env = pure none) : PS X (.Assign [.Subscript ox ix p2] x pos) (rdS X.K XC W pg k (.sub o i e)) := by
  refine PS.imp (ps_asg ih (pg_sub iho ihi (set_rule hu) (by cases ix <;> first | (intro _; rfl) | (simp [plainHd] at hp))) hs hw (by rfl)) fun D σ H hq => ?_
  obtain ⟨B, μ, h0, ρ, rl, sl, p⟩ := hq
  simp only [evS] at p
  refine ⟨B, μ, h0, ρ, rl, sl, PostS.bnd sl p fun v h1 y μ1 H1 _ st1 rl1 rp1 p1 => ?_⟩
  have sl1 := sl.step st1
  refine ⟨B, μ1, h1, ρ, rl1, sl1, PostS.bnd sl1 p1 fun v2 h2 y2 μ2 H2 _ st2 rl2 rp2 p2 => ?_⟩
  have sl2 := sl1.step st2
  refine ⟨B, μ2, h2, ρ, rl2, sl2, PostS.bnd sl2 p2 fun v3 h3 y3 μ3 H3 _ st3 rl3 rp3 p3 => ?_⟩
  have sl3 := sl2.step st3
  simp only at p3
  cases e' : setop v2 v3 v h3 with
  | error er => rw [e'] at p3; exact p3.elim
  | ok h' =>
    rw [e'] at p3
    exact ⟨B, μ3, h3, v2, v3, v, h', rl3, rp2.step st3, rp3, (rp1.step st2).step st3, e', fun μ' H' st4 rl4 => p3 σ μ' H' st4 rl4 (sl3.step st4)⟩
theorem s_asg2 {o i e : E} {j : Nat} {y : Str} {ox ix x : Expr} {p2 p3 p4 : Pos} {tn : Nat} (hu : X.A.units + 64 < cLine) (G : Good pg k N XC sc X) (hy : ltB N sc j y = true) (iho : PE X ox (rdE X.K XC W pg k o)) (ihi : PE X ix (rdE X.K XC W pg k i)) (ih : PE X x (rdE X.K XC W pg k e)) (hp : plainHd ix = true)
    (hs : swapsWithSole [.Tuple [.Subscript ox ix p2, .Name y p3] tn p4] x pos.line X.env = pure false) (hw : swappedStores [.Tuple [.Subscript ox ix p2, .Name y p3] tn p4] x X.env = pure none) : PS X (.Assign [.Tuple [.Subscript ox ix p2, .Name y p3] tn p4] x pos) (rdS X.K XC W pg k (.asg2 o i j e)) := by
  have gs : PG X (.Subscript ox ix p2) _ := pg_sub iho ihi (set_rule hu) (by cases ix <;> first | (intro _; rfl) | (simp [plainHd] at hp))
  have gn : PG X (.Name y p3) _ := s_tg (t := .name j) G (by simpa only [tgB] using hy)
  refine PS.imp (ps_asg ih (pg_tup G.calm (pgs_cons gs (pgs_cons gn pgs_nil (by rfl)) (by rfl)) (by rfl) (by rfl)) hs hw (by rfl)) fun D σ H hq => ?_
  obtain ⟨B, μ, h0, ρ, rl, sl, p⟩ := hq
  simp only [evS] at p
  refine ⟨B, μ, h0, ρ, rl, sl, PostS.bnd sl p fun v h1 y μ1 H1 _ st1 rl1 rp1 p1 => ?_⟩
  have sl1 := sl.step st1
  simp only at p1
  split at p1
  · rename_i v1 u1 _
    obtain ⟨a, vs, rfl, hs, t⟩ := Rep.tup_iff.mp rp1
    obtain ⟨x1, w, rfl, r1, t⟩ := t.cons_inv
    obtain ⟨x2, w, rfl, r2, t⟩ := t.cons_inv
    rw [t.nil_inv] at hs
    refine ⟨a, _, rfl, hs.sq, rfl, x1, _, rfl, ?_⟩
    refine ⟨B, μ1, h1, ρ, rl1, sl1, PostS.bnd sl1 p1 fun v2 h2 y2 μ2 H2 _ st2 rl2 rp2 p2 => ?_⟩
    have sl2 := sl1.step st2
    refine ⟨B, μ2, h2, ρ, rl2, sl2, PostS.bnd sl2 p2 fun v3 h3 y3 μ3 H3 _ st3 rl3 rp3 p3 => ?_⟩
    have sl3 := sl2.step st3
    simp only at p3
    cases e' : setop v2 v3 v1 h3 with
    | error er => rw [e'] at p3; exact p3.elim
    | ok h' =>
      rw [e'] at p3
      refine ⟨B, μ3, h3, v2, v3, v1, h', rl3, rp2.step st3, rp3, (r1.step st2).step st3, e', fun μ' H' st4 rl4 => ?_⟩
      refine ⟨x2, [], rfl, rfl, ?_⟩
      exact p3 _ μ' H' st4 rl4 ((sl3.step st4).set (((r2.step st2).step st3).step st4) j)
  · exact p1.elim
theorem set_ruleT (hu : X.A.units + 1 < cLine) : PSet X (fun o i v H Q => ∃ a kvs k b, o = .ref a ∧ H a = some (.dT kvs) ∧ i = .ref b ∧ H b = some (.tup (k.map L2.kV)) ∧ kvs.length < sizeLine ∧ Q (upd H a (.dT (L2.putK kvs k v)))) := by
  intro pins s σ H o i v ov iv u Q I r1 r2 r3 hq
  obtain ⟨a, kvs, k, b, rfl, hH, rfl, hb, hl, q⟩ := hq
  obtain rfl : ov = Value.ref a := r1
  exact d_setItem hu I (DPut.t hH hb hl) r2 r3 fun s' I' => ⟨_, I', q⟩
theorem s_setT {o e : E} {ks : Es} {ox x : Expr} {xs : List Expr} {tn : Nat} {tp p2 : Pos} (hu : X.A.units + 1 < cLine) (iho : PE X ox (rdE X.K XC W pg k o)) (ihk : PA X xs (rdEs X.K XC W pg k ks)) (ih : PE X x (rdE X.K XC W pg k e)) (hl : esLen ks ≤ 1000)
    (hs : swapsWithSole [.Subscript ox (.Tuple xs tn tp) p2] x pos.line X.env = pure false) (hw : swappedStores [.Subscript ox (.Tuple xs tn tp) p2] x X.env = pure none) : PS X (.Assign [.Subscript ox (.Tuple xs tn tp) p2] x pos) (rdS X.K XC W pg k (.setT o ks e)) := by
  refine PS.imp (ps_asg ih (pg_sub iho (pe_tup ihk) (set_ruleT hu) (by intro _; rfl)) hs hw (by rfl)) fun D σ H hq => ?_
  obtain ⟨B, μ, h0, ρ, rl, sl, p⟩ := hq
  simp only [evS] at p
  refine ⟨B, μ, h0, ρ, rl, sl, PostS.bnd sl p fun v h1 y μ1 H1 _ st1 rl1 rp1 p1 => ?_⟩
  have sl1 := sl.step st1
  refine ⟨B, μ1, h1, ρ, rl1, sl1, PostS.bnd sl1 p1 fun v2 h2 y2 μ2 H2 _ st2 rl2 rp2 p2 => ?_⟩
  have sl2 := sl1.step st2
  refine ⟨B, μ2, h2, ρ, rl2, sl2, PostS.bnd sl2 p2 fun v3 h3 y3 μ3 H3 e3 st3 rl3 rp3 p3 => ?_⟩
  have sl3 := sl2.step st3
  simp only at p3
  refine ⟨by rw [← rp3.length, evEs_len e3]; exact s_len hl, fun q hq => ?_⟩
  have hb : big ≤ sizeLine := big_le
  cases v2 with
  | ref n =>
    simp only [setopT] at p3
    cases hc : h3[n]? with
    | none => rw [hc] at p3; exact p3.elim
    | some cl =>
      rw [hc] at p3
      cases cl with
      | dcT l =>
        simp only at p3
        split at p3
        · rename_i k hk
          split at p3
          · rename_i hz
            obtain ⟨a, kvs, ha, hH, h4, h5⟩ := rl3.dcT hc
            obtain ⟨a', rfl, hm⟩ := Rep.ref_iff.mp (rp2.step st3)
            rw [ha] at hm; cases hm
            have ne : a ≠ q := fun z => by subst z; rw [hq] at hH; cases hH
            obtain ⟨d1, d2⟩ := dct_put (((rp1.step st2).step st3).step (Step.new (o := .tup y3) hq)) k h4 (h5.step (Step.new (o := .tup y3) hq))
            have hH' : upd H3 q (.tup y3) a = some (.dT kvs) := by rw [upd_ne ne]; exact hH
            have hkk : upd H3 q (.tup y3) q = some (.tup (k.map L2.kV)) := by rw [upd_same, keysP_V rp3 hk]
            refine ⟨a, kvs, k, q, rfl, hH', rfl, hkk, by rw [dct_len h4]; omega, ?_⟩
            have stN : Step μ3 H3 μ3 (upd H3 q (.tup y3)) := .new hq
            have rlN := rl3.new (o := .tup y3) hq
            have stW : Step μ3 (upd H3 q (.tup y3)) μ3 (upd (upd H3 q (.tup y3)) a (.dT (L2.putK kvs k y))) := .write ha (nfz hH')
            exact p3 σ μ3 _ (stN.trans stW) (rlN.writeT ha (nfz hH') d1 d2) (sl3.step (stN.trans stW))
          · exact p3.elim
        · exact p3.elim
      | lst l => exact p3.elim
      | dct l => exact p3.elim
      | fz l => exact p3.elim
      | fzN l => exact p3.elim
      | obj c fs => exact p3.elim
      | dcN _ => exact p3.elim
  | _ => simp only [setopT] at p3; exact p3.elim
theorem setfld_ok {B μ : List Addr} {h h' : MH} {H : Hp} {K : PySem.W.Frag} [Wd K] {c f : Str} {o v : PV} {x y : V} (rl : Rel K B μ h H) (ro : Rep K B μ H o x) (rv : Rep K B μ H v y) (e : setfld c o f v h = .ok h') : ∃ a C dx fv, x = .ref a ∧ H a = some (.ins C dx fv) ∧ CA K c C ∧ fv.length < 1000 ∧
    Step μ H μ (upd H a (.ins C dx (putF f y fv))) ∧ Rel K B μ h' (upd H a (.ins C dx (putF f y fv))) := by
  cases o with
  | ref n =>
    simp only [setfld] at e
    split at e
    · rename_i fs efs
      split at e
      · rename_i hl
        cases e
        obtain ⟨n', a, C, dx, fv, en, rfl, hm, hh, hH, hc, hk, hr⟩ := oview_ok rl ro efs
        cases en
        obtain ⟨p1, p2⟩ := obj_put f rv hk hr
        have : fv.length = fs.length := by have := congrArg List.length hk; simpa using this
        exact ⟨a, C, dx, fv, rfl, hH, hc, by omega, .write hm (nfz hH), rl.writeO hm (nfz hH) hc p1 p2⟩
      · cases e
    · cases e
  | _ => simp only [setfld] at e; cases e
theorem s_sfld {c f : Str} {o e : E} {ox x : Expr} {p2 : Pos} (G : Good pg k N XC sc X) (hf : flB pg c f = true) (iho : PE X ox (rdE X.K XC W pg k o)) (ih : PE X x (rdE X.K XC W pg k e)) (hs : swapsWith x (some (.Attribute ox f p2)) pos.line X.env = pure false) :
    PS X (.Assign [.Attribute ox f p2] x pos) (rdS X.K XC W pg k (.sfld c o f e)) := by
  refine PS.imp (ps_fld iho ih hs) fun D σ H hq => ?_
  obtain ⟨B, μ, h0, ρ, rl, sl, p⟩ := hq
  simp only [evS] at p
  refine ⟨B, μ, h0, ρ, rl, sl, PostS.bnd sl p fun v h1 y μ1 H1 _ st1 rl1 rp1 p1 => ?_⟩
  have sl1 := sl.step st1
  refine ⟨B, μ1, h1, ρ, rl1, sl1, PostS.bnd sl1 p1 fun v2 h2 y2 μ2 H2 _ st2 rl2 rp2 p2 => ?_⟩
  have sl2 := sl1.step st2
  simp only at p2
  cases e' : setfld c v2 f v h2 with
  | error er => rw [e'] at p2; exact p2.elim
  | ok h' =>
    rw [e'] at p2
    obtain ⟨a, C, dx, fv, ex, hH, hc, hl, st3, rl3⟩ := setfld_ok rl2 rp2 (rp1.step st2) e'
    obtain ⟨C', hc', cls, na⟩ := G.fls c f hf
    obtain rfl := hc.uniq hc'
    exact ⟨a, C, dx, fv, ex, hH, cls, na, hl, p2 σ μ2 _ st3 rl3 (sl2.step st3)⟩
theorem s_if {c : E} {a b : Ss} {x : Expr} {as bs : List Stmt} (ic : PT X x (rdT X.K XC W pg k c)) (ia : PSs X as (rdSs X.K XC W pg k a)) (ib : PSs X bs (rdSs X.K XC W pg k b)) : PS X (.If x as bs pos) (rdS X.K XC W pg k (.iff c a b)) := by
  refine PS.imp (ps_if ic ia ib) fun D σ H hq => ?_
  obtain ⟨B, μ, h0, ρ, rl, sl, p⟩ := hq
  simp only [evS] at p
  refine ⟨B, μ, h0, ρ, rl, sl, PostS.tst (f := fun t h => if t = true then evSs (run pg k) pg.gl a ρ h else evSs (run pg k) pg.gl b ρ h) sl p fun t h1 μ1 H1 st rl1 p1 => ?_⟩
  cases t with
  | true => rw [if_pos rfl] at p1 ⊢; exact ⟨B, μ1, h1, ρ, rl1, sl.step st, p1⟩
  | false => rw [if_neg Bool.false_ne_true] at p1 ⊢; exact ⟨B, μ1, h1, ρ, rl1, sl.step st, p1⟩
theorem s_for {t : Tg} {it : It} {b : Ss} {tg x : Expr} {bs : List Stmt} (G : Good pg k N XC sc X) (hp : PassesOwn (model X.prog X.w) X.A X.env X.xe) (hi : PI X tg x (rdI X.K XC W pg k it)) (hfold : ∀ v, foldedSetIterable x X.env v = pure v) (hg : tgB N sc t tg = true)
    (ib : PSs X bs (rdSs X.K XC W pg k b)) : PS X (.For tg x bs [] pos) (rdS X.K XC W pg k (.forr t it b)) := by
  refine PS.imp (ps_for hp G.calm hi (s_tg G hg) ib hfold) fun D σ H hq => ?_
  obtain ⟨B, μ, h0, ρ, rl, sl, p⟩ := hq
  simp only [evS] at p
  generalize hF : (fun v ρ h => bnd (bindT t v ρ) fun ρ' => evSs (run pg k) pg.gl b ρ' h : PV → Slts → MH → R (Fl × Slts × MH)) = F at p
  refine ⟨B, μ, h0, ρ, rl, sl, PostS.bnd sl p fun items0 h1 J μ1 H1 _ st1 rl1 it1 p1 => ?_⟩
  obtain ⟨items, lk⟩ := items0
  simp only at it1 p1
  refine ⟨fun i m σ' H' => m = items.length - i ∧ i ≤ items.length ∧ ∃ μ' h' ρ', Step μ1 H1 μ' H' ∧ Rel X.K B μ' h' H' ∧ Slots X.K B μ' H' ρ' σ' ∧ PostS X.K B XC W D (forL F lk (items.drop i) ρ' h') μ' H',
    ⟨items.length, by simp, Nat.zero_le _, μ1, h1, ρ, .refl, rl1, sl.step st1, by rw [List.drop_zero]; exact p1⟩, ?_⟩
  rintro i m σ2 H2 ⟨rfl, hle, μ2, h2, ρ2, st2, rl2, sl2, p2⟩
  have lo : lkOk lk h2 = true := by
    cases hl : lkOk lk h2 with
    | true => rfl
    | false => cases hd : items.drop i <;> (rw [hd] at p2; simp only [forL, hl, Bool.false_eq_true, if_false] at p2; exact p2.elim)
  obtain ⟨itg, its⟩ := it1 i μ2 H2 B h2 st2 (fun a ha => .inl ha) rl2 lo
  by_cases hlt : i < items.length
  · refine .inr ?_
    obtain ⟨go, yl⟩ := itg items[i] (List.getElem?_eq_getElem hlt)
    refine ⟨go, fun σ' H' => ∃ μ' h' ρ', Step μ1 H1 μ' H' ∧ Rel X.K B μ' h' H' ∧ Slots X.K B μ' H' ρ' σ' ∧ PostS X.K B XC W D (forL F lk (items.drop (i + 1)) ρ' h') μ' H',
      fun σ' H' hN => ⟨items.length - (i + 1), by omega, rfl, hlt, hN⟩, fun y H3 y3 => ?_⟩
    obtain ⟨st3, rl3, rx⟩ := yl y H3 y3
    have p3 := p2.step st3
    rw [List.drop_eq_getElem_cons hlt] at p3
    simp only [forL, lo, if_true] at p3
    rw [← hF] at p3
    simp only at p3
    cases eb : bindT t items[i] ρ2 with
    | error er => rw [eb] at p3; exact p3.elim
    | ok ρ3 =>
      rw [eb] at p3
      simp only [bnd_ok] at p3
      refine bind_ok eb rx (sl2.step st3) fun σ4 sl4 _ => ⟨B, μ2, h2, ρ3, rl3, sl4, ?_⟩
      cases er : evSs (run pg k) pg.gl b ρ3 h2 with
      | error e => rw [er] at p3; exact p3.elim
      | ok r =>
        obtain ⟨f, ρ5, h5⟩ := r
        rw [er] at p3
        simp only [bnd_ok] at p3
        intro σ5 μ5 H5 st5 rl5 sl5
        have st15 := (st2.trans st3).trans st5
        cases f with
        | nx => rw [hF] at p3; exact ⟨μ5, h5, ρ5, st15, rl5, sl5, p3.step st5⟩
        | ct => rw [hF] at p3; exact ⟨μ5, h5, ρ5, st15, rl5, sl5, p3.step st5⟩
        | bk => exact p3 σ5 μ5 H5 st5 rl5 sl5
        | ret v => exact p3 σ5 μ5 H5 st5 rl5 sl5
        | ex c => exact p3 σ5 μ5 H5 st5 rl5 sl5
  · have hi' : i = items.length := by omega
    subst hi'
    refine .inl ⟨its (Nat.le_refl _), ?_⟩
    rw [List.drop_length] at p2
    simp only [forL, lo, if_true] at p2
    exact p2.ok rl2 sl2
theorem s_whl {n : Nat} {c : E} {b : Ss} {x : Expr} {bs : List Stmt} (hp : PassesOwn (model X.prog X.w) X.A X.env X.xe) (ic : PT X x (rdT X.K XC W pg k c)) (ib : PSs X bs (rdSs X.K XC W pg k b)) : PS X (.While x bs [] pos) (rdS X.K XC W pg k (.whl n c b)) := by
  refine PS.imp (ps_while hp ic ib) fun D σ H hq => ?_
  obtain ⟨B, μ, h0, ρ, rl, sl, p⟩ := hq
  simp only [evS] at p
  generalize hF : (fun ρ h => match evE (run pg k) pg.gl c ρ h with
      | .error .stuck => stk
      | .error (.exc c h) => .ok (some (.ex c), ρ, h)
      | .ok x => bnd (truR x.1 x.2) fun t => if t = true then bnd (evSs (run pg k) pg.gl b ρ x.2) fun r => .ok (some r.1, r.2) else .ok (none, ρ, x.2) : Slts → MH → R (Option Fl × Slts × MH)) = F at p
  refine ⟨fun m σ' H' => ∃ μ' h' ρ', Rel X.K B μ' h' H' ∧ Slots X.K B μ' H' ρ' σ' ∧ PostS X.K B XC W D (whlL F m ρ' h') μ' H', ⟨n, μ, h0, ρ, rl, sl, p⟩, ?_⟩
  rintro m σ1 H1 ⟨μ1, h1, ρ1, rl1, sl1, p1⟩
  cases m with
  | zero => simp only [whlL] at p1; exact p1.elim
  | succ m =>
    simp only [whlL] at p1
    refine ⟨B, μ1, h1, ρ1, rl1, sl1, ?_⟩
    have p2 : PostS X.K B XC W D (exF ρ1 (evE (run pg k) pg.gl c ρ1 h1) fun y => bnd (truR y.1 y.2) fun t => if t = true then bnd (evSs (run pg k) pg.gl b ρ1 y.2) fun r => (match r.1 with
        | .nx => whlL F m r.2.1 r.2.2
        | .ct => whlL F m r.2.1 r.2.2
        | .bk => .ok (.nx, r.2)
        | .ret v => .ok (.ret v, r.2)
        | .ex c => .ok (.ex c, r.2)) else .ok (.nx, ρ1, y.2)) μ1 H1 := by
      rw [← hF] at p1 ⊢
      simp only at p1
      cases ee : evE (run pg k) pg.gl c ρ1 h1 with
      | error er =>
        rw [ee] at p1
        cases er with
        | stuck => exact p1
        | exc c' h' => exact p1
      | ok r =>
        rw [ee] at p1
        simp only [exF] at p1 ⊢
        cases et : truR r.1 r.2 with
        | error er => rw [et] at p1; exact p1.elim
        | ok t =>
          rw [et] at p1
          simp only [bnd_ok] at p1 ⊢
          cases t with
          | false => simpa only [Bool.false_eq_true, if_false, bnd_ok] using p1
          | true =>
            simp only [if_true] at p1 ⊢
            cases er : evSs (run pg k) pg.gl b ρ1 r.2 with
            | error e => rw [er] at p1; exact p1.elim
            | ok q =>
              obtain ⟨f, q⟩ := q
              rw [er] at p1
              simp only [bnd_ok] at p1 ⊢
              cases f <;> exact p1
    refine PostS.tst (f := fun t h => if t = true then bnd (evSs (run pg k) pg.gl b ρ1 h) fun r => (match r.1 with
        | .nx => whlL F m r.2.1 r.2.2
        | .ct => whlL F m r.2.1 r.2.2
        | .bk => .ok (.nx, r.2)
        | .ret v => .ok (.ret v, r.2)
        | .ex c => .ok (.ex c, r.2)) else .ok (.nx, ρ1, h)) sl1 p2 fun t h3 μ3 H3 st3 rl3 p3 => ?_
    have sl3 := sl1.step st3
    cases t with
    | false => rw [if_neg Bool.false_ne_true] at p3 ⊢; exact p3.ok rl3 sl3
    | true =>
      rw [if_pos rfl] at p3 ⊢
      refine ⟨fun σ' H' => ∃ μ' h' ρ', Rel X.K B μ' h' H' ∧ Slots X.K B μ' H' ρ' σ' ∧ PostS X.K B XC W D (whlL F m ρ' h') μ' H', fun σ' H' hN => ⟨m, Nat.lt_succ_self m, hN⟩, B, μ3, h3, ρ1, rl3, sl3, ?_⟩
      cases er : evSs (run pg k) pg.gl b ρ1 h3 with
      | error e => rw [er] at p3; exact p3.elim
      | ok q =>
        obtain ⟨f, ρ5, h5⟩ := q
        rw [er] at p3
        simp only [bnd_ok] at p3
        intro σ5 μ5 H5 st5 rl5 sl5
        cases f with
        | nx => exact ⟨μ5, h5, ρ5, rl5, sl5, p3.step st5⟩
        | ct => exact ⟨μ5, h5, ρ5, rl5, sl5, p3.step st5⟩
        | bk => exact p3 σ5 μ5 H5 st5 rl5 sl5
        | ret v => exact p3 σ5 μ5 H5 st5 rl5 sl5
        | ex c => exact p3 σ5 μ5 H5 st5 rl5 sl5
theorem s_snil : PSs X [] (rdSs X.K XC W pg k .nil) := by
  refine PSs.imp pss_nil fun D σ H hq => ?_
  obtain ⟨B, μ, h0, ρ, rl, sl, p⟩ := hq
  simp only [evSs] at p
  exact p.ok rl sl
theorem s_scons {s : S} {ss : Ss} {x : Stmt} {xs : List Stmt} (h1 : PS X x (rdS X.K XC W pg k s)) (h2 : PSs X xs (rdSs X.K XC W pg k ss)) : PSs X (x :: xs) (rdSs X.K XC W pg k (.cons s ss)) := by
  refine PSs.imp (pss_cons h1 h2) fun D σ H hq => ?_
  obtain ⟨B, μ, h0, ρ, rl, sl, p⟩ := hq
  simp only [evSs] at p
  refine ⟨B, μ, h0, ρ, rl, sl, ?_⟩
  cases er : evS (run pg k) pg.gl s ρ h0 with
  | error e => rw [er] at p; exact p.elim
  | ok q =>
    obtain ⟨f, ρ5, h5⟩ := q
    rw [er] at p
    simp only [bnd_ok] at p
    intro σ5 μ5 H5 st5 rl5 sl5
    cases f with
    | nx => exact ⟨B, μ5, h5, ρ5, rl5, sl5, p.step st5⟩
    | ct => exact p σ5 μ5 H5 st5 rl5 sl5
    | bk => exact p σ5 μ5 H5 st5 rl5 sl5
    | ret v => exact p σ5 μ5 H5 st5 rl5 sl5
    | ex c => exact p σ5 μ5 H5 st5 rl5 sl5
end
end Rg

namespace Rg
open PySem PySem.Spec PyProof.Rows L2
/-- isinstance(e, (c1, c2, ..)), e the exception that the suite holds -/
def rIsET (K : PySem.W.Frag) (D a : Addr) : List V → Hp → VK → Prop := fun xs H Q => ∃ (tp : Addr) (cs : List V) (us : List Value) (b : Bool), xs = [.ref a, .ref tp] ∧ H tp = some (.tup cs) ∧ (∀ ws, Vals cs ws → ws = us) ∧ PySem.W.kitAny K (.ref D) us = some b ∧ Q (.bl b) H
theorem call_isET {X : Cx} {a D : Addr} {oe : Obj} {pn : List (Addr × Obj)} (C : ExcC X.K D) (hz : Zc (.ref D) none oe) (hf : ∃ vs, oe.data = .fields vs) : CallR (X.suite a ((a, oe) :: pn)) (.builtin "isinstance") (rIsET X.K D a) := by
  intro pins s σ H xs us Q I r h
  obtain ⟨tp, cs, ws, b, rfl, hT, hcv, e, q⟩ := h
  cases r with
  | cons rx rr =>
    cases rr with
    | cons rt rr =>
      cases rr
      cases rx
      cases rt
      obtain ⟨hget, _⟩ := I.pin (a, oe) (List.mem_append.mpr (.inl List.mem_cons_self))
      obtain ⟨vs, hv⟩ := hf
      have J : PySem.W.InstAt s.heap a oe D none := by
        obtain ⟨oc, od, oda, osl⟩ := oe
        obtain ⟨h1, h2⟩ := hz
        dsimp only at h1 h2 hv
        subst h1 h2 hv
        exact ⟨hget, rfl, rfl, trivial⟩
      obtain ⟨_, its, rv, o, h1, h2, n, h3⟩ := (show ObjOk X.prog X.w H s.heap tp (.tup cs) from I.hok tp _ hT)
      have e3 := hcv _ rv
      subst e3
      obtain ⟨oc, od, dt, sl⟩ := o
      simp only at h2 h3
      subst h2 h3
      exact PySem.W.kia_tup (PySem.W.handS_kitx_exc C.hg C.hk C.hs C.hd C.ha C.hn C.ht C.hm) I.kIn J h1 e (fun z => nomatch z) fun tk => ⟨.bl b, H, I.tok tk, rfl, q⟩
section
variable {pg : Pg} {k : Nat} {N : List Str} {XC : XCT} {sc : Scope} {X : Cx} {W : WX} {pos : Pos}
theorem s_raise {c m : Str} {j : Nat} {p p2 p3 : Pos} (G : Good pg k N XC sc X) (tk : Takes X W) (hc : c ∈ pg.rs) (hg : glB sc c = true) : PS X (.Raise (some (.Call (.Name c p) [.Constant (.str m) j p2] [] p3)) none pos) (rdS X.K XC W pg k (.raise c)) := by
  obtain ⟨g1, g2, g3⟩ := G.glob hg
  obtain ⟨C, B, nI, iI, bmB, h1, h2, h3, h4, h5, h6, h7⟩ := G.exs.r c hc
  refine PS.imp (ps_raise G.calm tk (pmk_own h4 h3 h1 h2 (raises_own h5 h6) g1 g2)) fun D σ H hq => ?_
  obtain ⟨B, μ, h0, ρ, rl, sl, q⟩ := hq
  simp only [evS] at q
  exact (q.ok rl sl) (.ref C) none h7
/-- the check of an except suite's expression: en: the caught one's name -/
def clsB (sc : Scope) : List Str → List Expr → Bool
  | [], [] => true
  | c :: cs, .Name y _ :: ys => decide (y = c) && glB sc y && clsB sc cs ys
  | _, _ => false
def tstB (sc : Scope) (en : Str) (t : Bool × List Str) : Expr → Bool
  | .Call (.Name f _) [.Name y _, z] [] _ => decide (f = ("isinstance" : Str)) && glB sc f && decide (y = en) && (match z with
    | .Name c _ => !t.1 && glB sc c && decide (t.2 = [c])
    | .Tuple cs _ _ => t.1 && clsB sc t.2 cs && decide (cs.length ≤ 1000)
    | _ => false)
  | _ => false
def tssB (sc : Scope) (en : Str) : List (Bool × List Str) → List Expr → Bool
  | [], [] => true
  | t :: ts, x :: xs => tstB sc en t x && tssB sc en ts xs
  | _, _ => false
/-- a display of tests -/
def tdB (sc : Scope) (en : Str) (m : Bool) (l : List (Bool × List Str)) : Expr → Bool
  | .List xs _ => m && tssB sc en l xs && decide (l.length ≤ 1000)
  | .Tuple xs _ _ => !m && tssB sc en l xs && decide (l.length ≤ 1000)
  | _ => false
def plB (N : List Str) (sc : Scope) : E → Expr → Bool
  | .kstr s, .Constant (.str t) _ _ => decide (s = t) && decide (s.length ≤ big) && PyData.strOk s
  | .kint i, .Constant (.int j) _ _ => decide (i = j)
  | .var i, .Name x _ => nmB N sc i x
  | _, _ => false
def plsB (N : List Str) (sc : Scope) : Es → List Expr → Bool
  | .nil, [] => true
  | .cons e es, x :: xs => plB N sc e x && plsB N sc es xs
  | _, _ => false
def xeB (N : List Str) (sc : Scope) (en : Option Str) : Xe → Expr → Bool
  | .e (.tup es), .Tuple xs _ _ => plsB N sc es xs && decide (esLen es ≤ 1000)
  | .e (.bin op a b), .BinOp x op2 y _ => decide (op = .Add ∧ op2 = .Add) && plB N sc a x && plB N sc b y
  | .e e, x => plB N sc e x
  | .ts m l, x => match en with | some en => tdB sc en m l x | none => false
  | .ad j m l, .BinOp (.Name y _) op z _ => match en with | some en => decide (op = .Add) && nmB N sc j y && tdB sc en m l z | none => false
  | _, _ => false
def suB (N : List Str) (sc : Scope) (en : Option Str) : List (Nat × Xe) → List Stmt → Bool
  | [], [] => true
  | x :: xs, .Assign [.Name y _] e _ :: ss => ltB N sc x.1 y && decide (some y ≠ en) && xeB N sc en x.2 e && suB N sc en xs ss
  | _, _ => false
section
variable {a : Addr} {oe : Obj} {pn : List (Addr × Obj)}
abbrev Ysu (X : Cx) (a : Addr) (oe : Obj) (pn : List (Addr × Obj)) : Cx := X.suite a ((a, oe) :: pn)
/-- the caught one stands in its slot -/
def InSl (a : Addr) (i : Option Nat) (σ : L2.St) : Prop := ∀ j, i = some j → σ[j]? = some (some (V.ref a))
def rdEp (K : PySem.W.Frag) [Wd K] (XC : XCT) (W : WX) (pg : Pg) (k : Nat) (a : Addr) (i : Option Nat) (e : E) : TE := fun σ H Q => InSl a i σ ∧ rdE K XC W pg k e σ H Q
def rdEsp (K : PySem.W.Frag) [Wd K] (XC : XCT) (W : WX) (pg : Pg) (k : Nat) (a : Addr) (i : Option Nat) (e : Es) : TA := fun σ H Q => InSl a i σ ∧ rdEs K XC W pg k e σ H Q
theorem px_pl (G : Good pg k N XC sc X) {e : E} {x : Expr} (h : plB N sc e x = true) : PE (Ysu X a oe pn) x (rdE X.K XC W pg k e) := by
  cases e with
  | kstr s =>
    cases x with
    | Constant c n p =>
      cases c with
      | str d =>
        simp only [plB, Bool.and_eq_true, decide_eq_true_eq] at h
        obtain ⟨⟨h1, h2⟩, h3⟩ := h
        subst h1
        refine PE.imp pe_str fun σ H Q hq => ?_
        obtain ⟨B, μ, h0, ρ, rl, sl, p⟩ := hq
        simp only [evE] at p
        exact p (.str s) μ H .refl rl (Rep.str_iff.mpr ⟨rfl, h2, h3⟩)
      | _ => simp [plB] at h
    | _ => simp [plB] at h
  | kint i =>
    cases x with
    | Constant c n p =>
      cases c with
      | int d =>
        simp only [plB, decide_eq_true_eq] at h
        subst h
        refine PE.imp pe_int fun σ H Q hq => ?_
        obtain ⟨B, μ, h0, ρ, rl, sl, p⟩ := hq
        simp only [evE] at p
        exact p (.int i) μ H .refl rl .int
      | _ => simp [plB] at h
    | _ => simp [plB] at h
  | var i =>
    cases x with
    | Name y p =>
      simp only [plB] at h
      obtain ⟨h1, h2, h3, h4⟩ := nmB_ok G h
      refine PE.imp (pe_var (X := Ysu X a oe pn) h1 h2 h3 h4) fun σ H Q hq => ?_
      obtain ⟨B, μ, h0, ρ, rl, sl, p⟩ := hq
      simp only [evE] at p
      split at p
      · rename_i v e
        obtain ⟨y, ey, ry⟩ := sl.2 i v e
        exact ⟨y, ey, p y μ H .refl rl ry⟩
      · exact p.elim
    | _ => simp [plB] at h
  | _ => cases x <;> simp [plB] at h
theorem pl_hd {N : List Str} {sc : Scope} {e : E} {x : Expr} (h : plB N sc e x = true) : plainHd x = true := by
  cases e <;> cases x <;> first | rfl | (simp [plB] at h)
theorem px_pls (G : Good pg k N XC sc X) : ∀ {es : Es} {xs : List Expr}, plsB N sc es xs = true → PA (Ysu X a oe pn) xs (rdEs X.K XC W pg k es)
  | .nil, [], _ => s_anil (X := Ysu X a oe pn)
  | .cons e es, x :: xs, h => by
    simp only [plsB, Bool.and_eq_true] at h
    exact s_acons (X := Ysu X a oe pn) (px_pl G h.1) (px_pls G h.2) (pl_hd h.1)
  | .nil, _ :: _, h => by simp [plsB] at h
  | .cons _ _, [], h => by simp [plsB] at h
def tClss : List V → TA
  | [] => tNil
  | v :: vs => tCons (tC v) (tClss vs)
theorem tClss_run : ∀ {vs : List V} {σ : L2.St} {H : Hp} {Q : List V → Hp → Prop}, Q vs H → tClss vs σ H Q
  | [], _, _, _, q => q
  | v :: vs, σ, H, Q, q => tClss_run (vs := vs) (Q := fun xs H2 => Q (v :: xs) H2) q
theorem px_cls (G : Good pg k N XC sc X) {c h : Str} {cls : Value} {d : Option Addr} {b : Bool} {p : Pos} (xc : XC c cls d) (hb : pg.xm "?" c h = some b) (hg : glB sc h = true) :
    ∃ (v : V) (u : Value), PE (Ysu X a oe pn) (.Name h p) (tC v) ∧ RelV v u ∧ (∀ u', RelV v u' → u' = u) ∧ PySem.W.kitOne X.K cls u = some b := by
  obtain ⟨g1, g2, g3⟩ := G.glob hg
  obtain ⟨v, u, hm, r, un, ki⟩ := G.exs.t c cls d h b xc hb
  refine ⟨v, u, ?_, r, un, ki⟩
  rcases hm with hm | ⟨hm, hv⟩
  · exact pe_glob (X := Ysu X a oe pn) g1 hm r g2
  · exact pe_bltn (X := Ysu X a oe pn) g1 hm hv r g3 g2
theorem isb_xm (G : Good pg k N XC sc X) {c : Str} {cls : Value} {d : Option Addr} (xc : XC c cls d) {f : String} (hf : f = "<" ∨ f = "?") {h : Str} {b : Bool} (e : isb (run pg k) f c h = some b) : pg.xm f c h = some b := by
  obtain ⟨n1, n2, n3, n4⟩ := G.exs.n c cls d xc
  have hfn : pg.fn f = none := by rcases hf with rfl | rfl <;> assumption
  have hmk : pg.mak f = none := by rcases hf with rfl | rfl <;> assumption
  unfold isb at e
  cases k with
  | zero => simp [run, stk] at e
  | succ k =>
    rw [run, hfn] at e
    simp only [hmk, xmR] at e
    cases hx : pg.xm f c h with
    | none => rw [hx] at e; simp [stk] at e
    | some b' => rw [hx] at e; simpa using e
theorem px_clss (G : Good pg k N XC sc X) {c : Str} {cls : Value} {d : Option Addr} (xc : XC c cls d) : ∀ {cs : List Str} {xs : List Expr} {b : Bool}, clsB sc cs xs = true → anyB (isb (run pg k) "?" c) cs = some b →
    ∃ (vs : List V) (us : List Value), vs.length = xs.length ∧ PA (Ysu X a oe pn) xs (tClss vs) ∧ (∀ ws, Vals vs ws → ws = us) ∧ PySem.W.kitAny X.K cls us = some b
  | [], [], b, _, hb => by
    simp only [anyB, Option.some.injEq] at hb
    subst hb
    exact ⟨[], [], rfl, pa_nil, fun ws r => by cases r; rfl, kitAny_nil⟩
  | h :: cs, x :: xs, b, hc, hb => by
    cases x with
    | Name y p =>
      simp only [clsB, Bool.and_eq_true, decide_eq_true_eq] at hc
      obtain ⟨⟨e1, e2⟩, e3⟩ := hc
      subst e1
      simp only [anyB] at hb
      split at hb
      · rename_i b1 b2 q1 q2
        cases hb
        obtain ⟨v, u, p1, r, un, ki⟩ := px_cls (p := p) (a := a) (oe := oe) (pn := pn) G xc (isb_xm G xc (.inr rfl) q1) e2
        obtain ⟨vs, us, hl, p2, un2, ki2⟩ := px_clss G xc e3 q2
        refine ⟨v :: vs, u :: us, by simp [hl], pa_cons p1 p2, fun ws rw => ?_, ?_⟩
        · cases rw with
          | cons h1 h2 => rw [un _ h1, un2 _ h2]
        · refine kitAny_cons ki (fun hb1 => ?_) (fun hb1 => ?_)
          · rw [ki2, hb1]; simp
          · rw [hb1]; simp
      · cases hb
    | _ => simp [clsB] at hc
  | [], _ :: _, _, h, _ => by simp [clsB] at h
  | _ :: _, [], _, h, _ => by simp [clsB] at h
theorem px_tst (G : Good pg k N XC sc X) {c : Str} {D : Addr} (xc : XC c (.ref D) none) (eC : ExcC X.K D) (hz : Zc (.ref D) none oe) (hf : ∃ vs, oe.data = .fields vs) {en : Str} {i : Nat} (hi : nmB N sc i en = true) {t : Bool × List Str} {x : Expr} {b : Bool} (h : tstB sc en t x = true)
    (hb : anyB (isb (run pg k) "?" c) t.2 = some b) : PE (Ysu X a oe pn) x (rdEp X.K XC W pg k a (some i) (.kbl b)) ∧ plainHd x = true := by
  unfold tstB at h
  split at h
  · rename_i f p1 y p2 z p3
    simp only [Bool.and_eq_true, decide_eq_true_eq] at h
    obtain ⟨⟨⟨e1, e2⟩, e3⟩, e4⟩ := h
    subst e1 e3
    refine ⟨?_, rfl⟩
    obtain ⟨g1, g2, g3⟩ := G.glob e2
    have hm : X.mg "isinstance" = none := G.bmg (by decide +kernel)
    obtain ⟨v1, v2, v3, v4⟩ := nmB_ok G hi
    have pv : PE (Ysu X a oe pn) (.Name y p2) (tVar i) := pe_var (X := Ysu X a oe pn) v1 v2 v3 v4
    split at e4
    · rename_i z' c' p4
      simp only [Bool.and_eq_true, decide_eq_true_eq, Bool.not_eq_true'] at e4
      obtain ⟨⟨q1, q2⟩, q3⟩ := e4
      rw [q3] at hb
      simp only [anyB] at hb
      split at hb
      · rename_i b1 b2 w1 w2
        cases w2
        cases hb
        obtain ⟨v, u, pc, r, un, ki⟩ := px_cls (p := p4) (a := a) (oe := oe) (pn := pn) G xc (isb_xm G xc (.inr rfl) w1) q2
        have pa2 : PA (Ysu X a oe pn) [.Name y p2, .Name c' p4] (tCons (tVar i) (tCons (tC v) tNil)) := pa_cons pv (pa_cons pc pa_nil) (plain_star rfl _ _)
        refine PE.imp (pe_callB (X := Ysu X a oe pn) (call_isE eC hz hf) g1 hm boot_isinstance pa2 g3 g2 (plain_star rfl _ _) rfl) fun σ H Q hq => ?_
        obtain ⟨hP, B, μ, h0, ρ, rl, sl, p⟩ := hq
        simp only [evE] at p
        refine ⟨.ref a, hP i rfl, v, u, b1, rfl, un, ki, ?_⟩
        rw [Bool.or_false] at p
        exact p (.bl b1) μ H .refl rl .bl
      · cases hb
    · rename_i z' cs n p4
      simp only [Bool.and_eq_true, decide_eq_true_eq] at e4
      obtain ⟨⟨q1, q2⟩, q3⟩ := e4
      obtain ⟨vs, us, hl, pc, un, ki⟩ := px_clss (a := a) (oe := oe) (pn := pn) G xc q2 hb
      have pt : PE (Ysu X a oe pn) (.Tuple cs n p4) (tTup (tClss vs)) := pe_tup pc
      have pa2 : PA (Ysu X a oe pn) [.Name y p2, .Tuple cs n p4] (tCons (tVar i) (tCons (tTup (tClss vs)) tNil)) := pa_cons pv (pa_cons pt pa_nil) (plain_star rfl _ _)
      refine PE.imp (pe_callB (X := Ysu X a oe pn) (call_isET eC hz hf) g1 hm boot_isinstance pa2 g3 g2 (plain_star rfl _ _) rfl) fun σ H Q hq => ?_
      obtain ⟨hP, B, μ, h0, ρ, rl, sl, p⟩ := hq
      simp only [evE] at p
      refine ⟨.ref a, hP i rfl, tClss_run ⟨by rw [hl]; exact s_len q3, fun q hq => ?_⟩⟩
      exact ⟨q, vs, us, b, rfl, upd_same, un, ki, p (.bl b) μ _ (.new hq) (rl.new hq) .bl⟩
    · cases e4
  · cases h
theorem px_tss (G : Good pg k N XC sc X) {c : Str} {D : Addr} (xc : XC c (.ref D) none) (eC : ExcC X.K D) (hz : Zc (.ref D) none oe) (hf : ∃ vs, oe.data = .fields vs) {en : Str} {i : Nat} (hi : nmB N sc i en = true) : ∀ {l : List (Bool × List Str)} {xs : List Expr} {es : Es}, tssB sc en l xs = true →
    tsE (isb (run pg k) "?" c) l = some es → PA (Ysu X a oe pn) xs (rdEsp X.K XC W pg k a (some i) es) ∧ esLen es = l.length
  | [], [], es, _, e => by
    simp only [tsE, Option.some.injEq] at e
    subst e
    exact ⟨PA.imp (s_anil (X := Ysu X a oe pn)) fun σ H Q hq => hq.2, rfl⟩
  | t :: l, x :: xs, es, h, e => by
    simp only [tssB, Bool.and_eq_true] at h
    simp only [tsE] at e
    split at e
    · rename_i b es' q1 q2
      cases e
      obtain ⟨p1, hp⟩ := px_tst (W := W) (pn := pn) G xc eC hz hf hi h.1 q1
      obtain ⟨p2, hl⟩ := px_tss G xc eC hz hf hi h.2 q2
      refine ⟨PA.imp (pa_cons p1 p2 (plain_star hp xs _)) fun σ H Q hq => ?_, by simp [esLen, hl]⟩
      obtain ⟨hP, B, μ, h0, ρ, rl, sl, p⟩ := hq
      simp only [evEs] at p
      refine ⟨hP, B, μ, h0, ρ, rl, sl, p.bnd fun v h1 x1 μ1 H1 _ st1 rl1 rp1 p1 => ?_⟩
      refine ⟨hP, B, μ1, h1, ρ, rl1, sl.step st1, p1.bnd fun u h2 y2 μ2 H2 _ st2 rl2 rp2 p2 => ?_⟩
      exact p2 (x1 :: y2) μ2 H2 .refl rl2 (.cons (rp1.step st2) rp2)
    · cases e
  | [], _ :: _, _, h, _ => by simp [tssB] at h
  | _ :: _, [], _, h, _ => by simp [tssB] at h
theorem px_td (G : Good pg k N XC sc X) {c : Str} {D : Addr} (xc : XC c (.ref D) none) (eC : ExcC X.K D) (hz : Zc (.ref D) none oe) (hf : ∃ vs, oe.data = .fields vs) {en : Str} {i : Nat} (hi : nmB N sc i en = true) {m : Bool} {l : List (Bool × List Str)} {x : Expr} {es : Es} (h : tdB sc en m l x = true)
    (e : tsE (isb (run pg k) "?" c) l = some es) : PE (Ysu X a oe pn) x (rdEp X.K XC W pg k a (some i) (if m = true then .lst es else .tup es)) ∧ plainHd x = true := by
  unfold tdB at h
  split at h
  · rename_i xs p
    simp only [Bool.and_eq_true, decide_eq_true_eq] at h
    obtain ⟨⟨h1, h2⟩, h3⟩ := h
    obtain ⟨ps, hl⟩ := px_tss (W := W) (pn := pn) G xc eC hz hf hi h2 e
    rw [if_pos h1]
    refine ⟨PE.imp (pe_lst ps) fun σ H Q hq => ?_, rfl⟩
    obtain ⟨hP, B, μ, h0, ρ, rl, sl, p⟩ := hq
    simp only [evE] at p
    refine ⟨hP, B, μ, h0, ρ, rl, sl, p.bnd fun vs h1 ys μ1 H1 e1 st1 rl1 rp1 p1 => ?_⟩
    refine ⟨by rw [← rp1.length, evEs_len e1, hl]; exact s_len h3, fun q hq => ?_⟩
    exact p1 (.ref q) μ1 _ (.new hq) (rl1.new hq) (.newLst rl1 hq rp1)
  · rename_i xs n p
    simp only [Bool.and_eq_true, decide_eq_true_eq, Bool.not_eq_true'] at h
    obtain ⟨⟨h1, h2⟩, h3⟩ := h
    obtain ⟨ps, hl⟩ := px_tss (W := W) (pn := pn) G xc eC hz hf hi h2 e
    rw [if_neg (by rw [h1]; exact Bool.false_ne_true)]
    refine ⟨PE.imp (pe_tup ps) fun σ H Q hq => ?_, rfl⟩
    obtain ⟨hP, B, μ, h0, ρ, rl, sl, p⟩ := hq
    simp only [evE] at p
    refine ⟨hP, B, μ, h0, ρ, rl, sl, p.bnd fun vs h1 ys μ1 H1 e1 st1 rl1 rp1 p1 => ?_⟩
    refine ⟨by rw [← rp1.length, evEs_len e1, hl]; exact s_len h3, fun q hq => ?_⟩
    exact p1 (.ref q) μ1 _ (.new hq) (rl1.new hq) (.newTup rl1 hq rp1)
  · cases h
def notX : Expr → Bool
  | .ListComp .. | .SetComp .. | .DictComp .. => false
  | _ => true
theorem pl_nx {N : List Str} {sc : Scope} {e : E} {x : Expr} (h : plB N sc e x = true) : notX x = true := by
  cases e <;> cases x <;> first | rfl | (simp [plB] at h)
theorem td_nx {sc : Scope} {en : Str} {m : Bool} {l : List (Bool × List Str)} {x : Expr} (h : tdB sc en m l x = true) : notX x = true := by
  unfold tdB at h
  split at h <;> first | rfl | cases h
/-- what a suite's statement reads; what the exception is -/
theorem px_xe (G : Good pg k N XC sc X) {c : Str} {D : Addr} (xc : XC c (.ref D) none) (eC : ExcC X.K D) (hz : Zc (.ref D) none oe) (hf : ∃ vs, oe.data = .fields vs) {en : Option Str} {i : Option Nat} (hi : ∀ y, en = some y → ∃ j, i = some j ∧ nmB N sc j y = true) {x : Xe} {ex : Expr} {e : E} (h : xeB N sc en x ex = true)
    (he : instX (isb (run pg k) "?" c) x = some e) : PE (Ysu X a oe pn) ex (rdEp X.K XC W pg k a i e) ∧ notX ex = true := by
  have lift : ∀ {e : E} {ex : Expr}, PE (Ysu X a oe pn) ex (rdE X.K XC W pg k e) → PE (Ysu X a oe pn) ex (rdEp X.K XC W pg k a i e) := fun p => PE.imp p fun σ H Q hq => hq.2
  unfold xeB at h
  split at h
  · rename_i es xs n p
    simp only [Bool.and_eq_true, decide_eq_true_eq] at h
    simp only [instX, Option.some.injEq] at he
    subst he
    exact ⟨lift (s_tup (X := Ysu X a oe pn) (px_pls G h.1) h.2), rfl⟩
  · rename_i op a' b' x' op2 y' p
    simp only [Bool.and_eq_true, decide_eq_true_eq] at h
    obtain ⟨⟨⟨h1, h2⟩, h3⟩, h4⟩ := h
    subst h1 h2
    simp only [instX, Option.some.injEq] at he
    subst he
    exact ⟨lift (s_bin (X := Ysu X a oe pn) (px_pl G h3) (px_pl G h4)), rfl⟩
  · rename_i e' x' _ _
    simp only [instX, Option.some.injEq] at he
    subst he
    exact ⟨lift (px_pl G h), pl_nx h⟩
  · rename_i m l x'
    split at h
    · rename_i en'
      obtain ⟨j, rfl, hj⟩ := hi en' rfl
      simp only [instX] at he
      split at he
      · rename_i es q
        cases he
        obtain ⟨p1, p2⟩ := px_td (W := W) (pn := pn) G xc eC hz hf hj h q
        exact ⟨p1, td_nx h⟩
      · cases he
    · cases h
  · rename_i j m l y p op z p2
    split at h
    · rename_i en'
      obtain ⟨i', rfl, hj⟩ := hi en' rfl
      simp only [Bool.and_eq_true, decide_eq_true_eq] at h
      obtain ⟨⟨h1, h2⟩, h3⟩ := h
      subst h1
      simp only [instX] at he
      split at he
      · rename_i es q
        cases he
        obtain ⟨p1, _⟩ := px_td (W := W) (pn := pn) G xc eC hz hf hj h3 q
        have p0 : PE (Ysu X a oe pn) (.Name y p) (rdE X.K XC W pg k (.var j)) := px_pl (e := .var j) G (by simpa [plB] using h2)
        refine ⟨PE.imp (pe_op (X := Ysu X a oe pn) (op_bin .Add) p0 p1) fun σ H Q hq => ?_, rfl⟩
        obtain ⟨hP, B, μ, h0, ρ, rl, sl, p⟩ := hq
        simp only [evE] at p
        have p' : PostG X.K B XC W σ (Rep X.K B) Q (bnd (evE (run pg k) pg.gl (.var j) ρ h0) fun x => bnd (evE (run pg k) pg.gl (if m = true then .lst es else .tup es) ρ x.2) fun y => bnd (binop .Add x.1 y.1 y.2) fun v => .ok (v, y.2)) μ H := by
          simp only [evE]; exact p
        refine ⟨B, μ, h0, ρ, rl, sl, p'.bnd fun v h1 x1 μ1 H1 _ st1 rl1 rp1 p1 => ?_⟩
        refine ⟨hP, B, μ1, h1, ρ, rl1, sl.step st1, p1.bnd fun u h2 y2 μ2 H2 _ st2 rl2 rp2 p2 => ?_⟩
        obtain ⟨w, ew, q⟩ := p2.fin fun c h' => binop_ex
        exact ⟨B, μ2, h2, v, u, w, rl2, rp1.step st2, rp2, ew, q⟩
      · cases he
    · cases h
  · cases h
/-- a suite -/
def rdSu (K : PySem.W.Frag) [Wd K] (XC : XCT) (W : WX) (pg : Pg) (k : Nat) (a : Addr) (i : Option Nat) (q : Str → Option Bool) (l : List (Nat × Xe)) : TS := fun D σ H => InSl a i σ ∧ ∃ B μ h ρ, Rel K B μ h H ∧ Slots K B μ H ρ σ ∧
  PostS K B XC W D (bnd (suX (run pg k) pg.gl q l ρ h) fun r => .ok (.nx, r.1, r.2)) μ H
theorem px_su (G : Good pg k N XC sc X) {c : Str} {D : Addr} (xc : XC c (.ref D) none) (eC : ExcC X.K D) (hz : Zc (.ref D) none oe) (hf : ∃ vs, oe.data = .fields vs) {en : Option Str} {i : Option Nat} (hi : ∀ y, en = some y → ∃ j, i = some j ∧ nmB N sc j y = true) (hi2 : ∀ j, i = some j → ∃ y, en = some y ∧ N[j]? = some y) :
    ∀ {l : List (Nat × Xe)} {ss : List Stmt}, suB N sc en l ss = true → PSs (Ysu X a oe pn) ss (rdSu X.K XC W pg k a i (isb (run pg k) "?" c) l)
  | [], [], _ => PSs.imp pss_nil fun D σ H hq => by
    obtain ⟨_, B, μ, h0, ρ, rl, sl, p⟩ := hq
    simp only [suX, bnd_ok] at p
    exact p.ok rl sl
  | x :: l, s :: ss, h => by
    unfold suB at h
    split at h
    · rename_i h0; cases h0
    · rename_i x' l' y p1 e p2 ss' e1 e2
      cases e1
      cases e2
      simp only [Bool.and_eq_true, decide_eq_true_eq] at h
      obtain ⟨⟨⟨h1, h2⟩, h3⟩, h4⟩ := h
      unfold ltB at h1
      simp only [Bool.and_eq_true, decide_eq_true_eq] at h1
      obtain ⟨w1, w2⟩ := G.loc y h1.2
      have pgn : PG (Ysu X a oe pn) (.Name y p1) (gName x.1) := pg_name (X := Ysu X a oe pn) (by show X.N.Nodup; rw [G.hN]; exact G.nd) (by show X.N[x.1]? = some y; rw [G.hN]; exact h1.1) w1 w2
      have ih := px_su G xc eC hz hf hi hi2 h4
      refine ⟨fun pins s σ H D' I hq => ?_⟩
      obtain ⟨hP, B, μ, h0, ρ, rl, sl, p⟩ := hq
      simp only [suX] at p
      cases hx : instX (isb (run pg k) "?" c) x.2 with
      | none => rw [hx] at p; exact p.elim
      | some e' =>
        rw [hx] at p
        simp only at p
        obtain ⟨pe, nx⟩ := px_xe (W := W) (a := a) (oe := oe) (pn := pn) G xc eC hz hf hi h3 hx
        have sw : swapsWithSole [.Name y p1] e p2.line (Ysu X a oe pn).env = pure false := by
          cases e <;> first | rfl | (simp [notX] at nx)
        refine (pss_cons (ps_asg pe pgn sw (by rfl) (by rfl)) ih).run pins s σ H D' I ?_
        refine ⟨hP, B, μ, h0, ρ, rl, sl, ?_⟩
        cases ev : evE (run pg k) pg.gl e' ρ h0 with
        | error er => rw [ev] at p; cases er <;> exact p.elim
        | ok r =>
          obtain ⟨v, h2'⟩ := r
          rw [ev] at p
          simp only [bindT, bnd_ok] at p
          intro z μ1 H1 st rl1 rz
          refine ⟨fun j hj => ?_, B, μ1, h2', _, rl1, (sl.step st).set rz x.1, p.step st⟩
          obtain ⟨y', e1', e2'⟩ := hi2 j hj
          have : x.1 ≠ j := fun z => by
            rw [z] at h1
            rw [h1.1] at e2'
            cases e2'
            exact h2 e1'.symm
          rw [List.getElem?_set_ne this]
          exact hP j hj
    · cases h
  | [], _ :: _, h => by simp [suB] at h
  | _ :: _, [], h => by simp [suB] at h
end
/-- clauses without names -/
def manyB (N : List Str) (sc : Scope) : List Hd → List ExceptHandler → Bool
  | [], [] => true
  | x :: hs, .ExceptHandler (some (.Name y _)) none (s :: ss) _ :: hds => decide (y = x.cl ∧ x.nm = none) && glB sc y && suB N sc none x.su (s :: ss) && manyB N sc hs hds
  | _, _ => false
theorem Good.tr (G : Good pg k N XC sc X) (pn : List (Addr × Obj)) (xe : Value → Shared → Prop) : Good pg k N XC sc (X.tr pn xe) :=
  ⟨G.hN, G.nd, G.calm, G.room, G.kind, G.vis, G.loc, G.lc, G.cl, G.gl, G.cap, G.fns, G.gls, G.blt, G.fls, G.mts, G.exs, G.ups, G.mks⟩
/-- the body, with what the clauses wish -/
theorem try_body {b : Ss} {hs : List Hd} {D : Ends} {σ : L2.St} {H : Hp} {W' : WX} (hq : rdS X.K XC W pg k (.tryS b hs) D σ H)
    (hx : ∀ c cls d B μ h ρ σ1 H1, XC c cls d → Rel X.K B μ h H1 → Slots X.K B μ H1 ρ σ1 → PostS X.K B XC W D (hand (run pg k) pg.gl c hs ρ h) μ H1 → W' cls d σ1 H1) : rdSs X.K XC W' pg k b D σ H := by
  obtain ⟨B, μ, h0, ρ, rl, sl, p⟩ := hq
  simp only [evS] at p
  refine ⟨B, μ, h0, ρ, rl, sl, ?_⟩
  cases er : evSs (run pg k) pg.gl b ρ h0 with
  | error e => rw [er] at p; cases e <;> exact p.elim
  | ok q =>
    obtain ⟨fl, ρ1, h1⟩ := q
    rw [er] at p
    simp only [bnd_ok] at p
    intro σ1 μ1 H1 st rl1 sl1
    cases fl with
    | ex c => exact fun cls d xc => hx c cls d B μ1 h1 ρ1 σ1 H1 xc rl1 sl1 (PostS.step p st)
    | nx => exact p σ1 μ1 H1 st rl1 sl1
    | ret v => exact p σ1 μ1 H1 st rl1 sl1
    | bk => exact p σ1 μ1 H1 st rl1 sl1
    | ct => exact p σ1 μ1 H1 st rl1 sl1
theorem s_tryAs (G : Good pg k N XC sc X) (hfr : X.stack = X.env :: X.outer ∧ X.env.frame = some X.env.locals) (tk : Takes X W) {b : Ss} {hn n : Str} {ie : Nat} {su : List (Nat × Xe)} {body ss : List Stmt} {b0 : Stmt} {np p' : Pos}
    (hr : hn ∈ pg.rs) (hg : glB sc hn = true) (hi : N[ie]? = some n) (hloc : sc.names.lookup n = some .local) (hnm : nmB N sc ie n = true) (hsu : suB N sc (some n) su (b0 :: ss) = true)
    (hb : ∀ (W' : WX) (pn : List (Addr × Obj)) (xe : Value → Shared → Prop), Takes (X.tr pn xe) W' → PassesOwn (model X.prog X.w) X.A X.env xe → PSs (X.tr pn xe) body (rdSs X.K XC W' pg k b)) :
    PS X (.Try body [.ExceptHandler (some (.Name hn np)) (some n) (b0 :: ss) p'] [] [] pos) (rdS X.K XC W pg k (.tryS b [⟨hn, some ie, su⟩])) := by
  obtain ⟨g1, g2, g3⟩ := G.glob hg
  obtain ⟨C, _, _, _, _, hC, _⟩ := G.exs.r hn hr
  have hc : Names X hn (.ref C) := ⟨g1, g2, .inl hC⟩
  have hln : X.env.kindOf n = some .local := G.lc n hloc
  refine PS.imp (ps_try_as (i := ie) (ts := fun a cls d D σ H => ∃ c D0, cls = .ref D0 ∧ d = none ∧ XC c (.ref D0) none ∧ ExcC X.K D0 ∧ (∃ σ0 : L2.St, σ = σ0.set ie (some (.ref a))) ∧ ∃ B μ h ρ, Rel X.K B μ h H ∧ Slots X.K B μ H ρ σ ∧
    PostS X.K B XC W D (bnd (suX (run pg k) pg.gl (isb (run pg k) "?" c) su ρ h) fun r => .ok (.nx, r.1, r.2)) μ H) hfr.1 hfr.2 (by rw [G.hN]; exact G.nd) (by rw [G.hN]; exact hi) hln hc tk hb (fun a oe cls d pn hz hfl => ⟨fun pins s σ H D I hq => ?_⟩)) fun D σ H hq => ?_
  · obtain ⟨c, D0, rfl, rfl, xc, eC, ⟨σ0, e3⟩, rest⟩ := hq
    refine (px_su (W := W) (pn := pn) (a := a) (oe := oe) G xc eC hz hfl (en := some n) (i := some ie) (fun y e => by cases e; exact ⟨ie, rfl, hnm⟩) (fun j e => by cases e; exact ⟨n, rfl, hi⟩) hsu).run pins s σ H D I ⟨fun j ej => ?_, rest⟩
    cases ej
    have hl : σ.length = X.N.length := I.len
    have hie : ie < N.length := (List.getElem?_eq_some_iff.mp hi).1
    rw [G.hN, e3, List.length_set] at hl
    rw [e3, List.getElem?_set_self (by rw [hl]; exact hie)]
  · refine try_body hq fun c cls d B μ h ρ σ1 H1 xc rl sl p => ?_
    obtain ⟨D0, rfl, rfl, eC⟩ := G.exs.x c cls d xc
    simp only [hand] at p
    cases hbb : isb (run pg k) "<" c hn with
    | none => rw [hbb] at p; exact p.elim
    | some b =>
      obtain ⟨v, hv, hk⟩ := G.exs.m c _ _ hn b xc (isb_xm G xc (.inl rfl) hbb)
      rw [hC] at hv
      cases hv
      rw [hbb] at p
      refine ⟨b, hk, fun e a na => ?_, fun e => ?_⟩
      · subst e
        simp only at p
        refine ⟨c, D0, rfl, rfl, xc, eC, ⟨σ1, rfl⟩, B, μ, h, clr (some ie) ρ, rl, ?_, ?_⟩
        · refine ⟨by simp [clr, sl.1], fun j v e => ?_⟩
          simp only [clr] at e
          by_cases hj : ie = j
          · subst hj
            have hl : ie < ρ.length := by
              have := (List.getElem?_eq_some_iff.mp e).1
              rwa [List.length_set] at this
            rw [List.getElem?_set_self hl] at e
            cases e
          · rw [List.getElem?_set_ne hj] at e ⊢
            exact sl.2 j v e
        · cases es : suX (run pg k) pg.gl (isb (run pg k) "?" c) su (clr (some ie) ρ) h with
          | error er => rw [es] at p; cases er <;> exact p.elim
          | ok q =>
            rw [es] at p
            simp only [bnd_ok] at p ⊢
            intro σ2 μ2 H2 st2 rl2 sl2
            exact p (σ2.set ie none) μ2 H2 st2 rl2 (sl2.setN ie)
      · subst e
        simp only at p
        exact p.ok rl sl (.ref D0) none xc
theorem px_hds (G : Good pg k N XC sc X) : ∀ {hs : List Hd} {hds : List ExceptHandler}, manyB N sc hs hds = true → (∀ x ∈ hs, x.cl ∈ pg.rs) → ∃ l : List (Value × (Addr → Value → Option Addr → TS)), HdsOk X hds l ∧
    ∀ c cls d B μ h ρ σ1 H1 D, XC c cls d → Rel X.K B μ h H1 → Slots X.K B μ H1 ρ σ1 → PostS X.K B XC W D (hand (run pg k) pg.gl c hs ρ h) μ H1 → wMany X.K W D l cls d σ1 H1
  | [], [], _, _ => ⟨[], .nil, fun c cls d B μ h ρ σ1 H1 D xc rl sl p => by
    simp only [hand] at p
    exact p.ok rl sl cls d xc⟩
  | x :: hs, hd :: hds, h, hr => by
    unfold manyB at h
    split at h
    · rename_i h0; cases h0
    · rename_i x' hs' y p1 s ss p2 hds' e1 e2
      cases e1
      cases e2
      simp only [Bool.and_eq_true, decide_eq_true_eq] at h
      obtain ⟨⟨⟨⟨h1, h2⟩, h3⟩, h4⟩, h5⟩ := h
      obtain ⟨l, hl, hw⟩ := px_hds G h5 fun z hz => hr z (List.mem_cons_of_mem _ hz)
      obtain ⟨g1, g2, g3⟩ := G.glob h3
      obtain ⟨C, _, _, _, _, hC, _⟩ := G.exs.r x.cl (hr x List.mem_cons_self)
      subst h1
      refine ⟨(.ref C, fun a cls d D σ H => ∃ c D0, cls = .ref D0 ∧ d = none ∧ XC c (.ref D0) none ∧ ExcC X.K D0 ∧ ∃ B μ h ρ, Rel X.K B μ h H ∧ Slots X.K B μ H ρ σ ∧
        PostS X.K B XC W D (bnd (suX (run pg k) pg.gl (isb (run pg k) "?" c) x.su ρ h) fun r => .ok (.nx, r.1, r.2)) μ H) :: l, .cons (c := .ref C) ⟨g1, g2, .inl hC⟩ (fun a oe cls d pn hz hfl => ⟨fun pins s σ H D I hq => ?_⟩) hl, ?_⟩
      · obtain ⟨c, D0, rfl, rfl, xc, eC, rest⟩ := hq
        exact (px_su (W := W) (pn := pn) (a := a) (oe := oe) G xc eC hz hfl (en := none) (i := none) (fun y e => by cases e) (fun j e => by cases e) h4).run pins s σ H D I ⟨fun j ej => (by cases ej), rest⟩
      · intro c cls d B μ h ρ σ1 H1 D xc rl sl p
        obtain ⟨D0, rfl, rfl, eC⟩ := G.exs.x c cls d xc
        simp only [hand] at p
        cases hbb : isb (run pg k) "<" c x.cl with
        | none => rw [hbb] at p; exact p.elim
        | some b =>
          obtain ⟨v, hv, hk⟩ := G.exs.m c _ _ x.cl b xc (isb_xm G xc (.inl rfl) hbb)
          rw [hC] at hv
          cases hv
          rw [hbb] at p
          refine ⟨b, hk, fun e a na => ?_, fun e => ?_⟩
          · subst e
            simp only [h2, clr] at p
            exact ⟨c, D0, rfl, rfl, xc, eC, B, μ, h, ρ, rl, sl, p⟩
          · subst e
            simp only at p
            exact hw c _ _ B μ h ρ σ1 H1 D xc rl sl p
    · cases h
  | [], _ :: _, h, _ => by simp [manyB] at h
  | _ :: _, [], h, _ => by simp [manyB] at h
theorem s_tryMany (G : Good pg k N XC sc X) (hfr : X.stack = X.env :: X.outer ∧ X.env.frame = some X.env.locals) (tk : Takes X W) {b : Ss} {hs : List Hd} {hds : List ExceptHandler} {body : List Stmt} (h0 : hds ≠ []) (hm : manyB N sc hs hds = true) (hr : ∀ x ∈ hs, x.cl ∈ pg.rs)
    (hb : ∀ (W' : WX) (pn : List (Addr × Obj)) (xe : Value → Shared → Prop), Takes (X.tr pn xe) W' → PassesOwn (model X.prog X.w) X.A X.env xe → PSs (X.tr pn xe) body (rdSs X.K XC W' pg k b)) :
    PS X (.Try body hds [] [] pos) (rdS X.K XC W pg k (.tryS b hs)) := by
  obtain ⟨l, hl, hw⟩ := px_hds (W := W) G hm hr
  cases hds with
  | nil => exact absurd rfl h0
  | cons hd hds => exact PS.imp (ps_try_many hfr.1 hfr.2 tk hb hl) fun D σ H hq => try_body hq fun c cls d B μ h ρ σ1 H1 xc rl sl p => hw c cls d B μ h ρ σ1 H1 D xc rl sl p
/-- the check of a try -/
def tryB (pg : Pg) (N : List Str) (sc : Scope) (hs : List Hd) (hds : List ExceptHandler) : Bool := match hs, hds with
  | [⟨hn, some ie, su⟩], [.ExceptHandler (some (.Name y _)) (some n) (s :: ss) _] => decide (y = hn) && pg.rs.contains hn && glB sc hn && decide (N[ie]? = some n) && decide (sc.names.lookup n = some .local) && nmB N sc ie n && suB N sc (some n) su (s :: ss)
  | hs, hds => !hds.isEmpty && manyB N sc hs hds && hs.all fun x => pg.rs.contains x.cl
theorem s_try (G : Good pg k N XC sc X) (hfr : X.stack = X.env :: X.outer ∧ X.env.frame = some X.env.locals) (tk : Takes X W) {b : Ss} {hs : List Hd} {hds : List ExceptHandler} {body : List Stmt} (h : tryB pg N sc hs hds = true)
    (hb : ∀ (W' : WX) (pn : List (Addr × Obj)) (xe : Value → Shared → Prop), Takes (X.tr pn xe) W' → PassesOwn (model X.prog X.w) X.A X.env xe → PSs (X.tr pn xe) body (rdSs X.K XC W' pg k b)) :
    PS X (.Try body hds [] [] pos) (rdS X.K XC W pg k (.tryS b hs)) := by
  unfold tryB at h
  split at h
  · rename_i hn ie su y p1 n s ss p2
    simp only [Bool.and_eq_true, decide_eq_true_eq] at h
    obtain ⟨⟨⟨⟨⟨⟨h1, h2⟩, h3⟩, h4⟩, h5⟩, h6⟩, h7⟩ := h
    subst h1
    exact s_tryAs G hfr tk (by simpa using h2) h3 h4 h5 h6 h7 hb
  · simp only [Bool.and_eq_true, Bool.not_eq_true'] at h
    obtain ⟨⟨h1, h2⟩, h3⟩ := h
    exact s_tryMany G hfr tk (by intro z; rw [z] at h1; cases h1) h2 (fun x hx => by simpa using List.all_eq_true.mp h3 x hx) hb
end
end Rg

namespace Rg
open PySem PySem.Spec PyProof.Rows L2
def notComp : Expr → Bool
  | .ListComp .. | .SetComp .. | .DictComp .. => false
  | _ => true
theorem nc_sw {x : Expr} (h : notComp x = true) (tg : Option Expr) (l : Nat) (env : Env) : swapsWith x tg l env = pure false := by
  cases x <;> first | rfl | (simp [notComp] at h)
def ownB (scope : Scope) (y : Str) : Bool := scope.names.any fun (n, k) => n == y && (k == .local || k == .cell)
/-- name = [..]: the list is laid into the name at once -/
def swB (sc : Scope) : Expr → Expr → Bool
  | .Name y py, .ListComp _ _ scope cpos => decide (sc.names.lookup y = some .local) && (py.line == cpos.line) && !ownB scope y
  | _, _ => false
def nswB (sc : Scope) : Expr → Expr → Bool
  | .Name y py, .ListComp _ _ scope cpos => decide (sc.names.lookup y = some .cell) || !(py.line == cpos.line) || ownB scope y
  | .Name .., x => notComp x
  | _, _ => true
def pairB : Expr → Expr → Bool
  | .Tuple .., .Tuple .. => true
  | .List .., .Tuple .. => true
  | _, _ => false
theorem nopair {tg x : Expr} (h : pairB tg x = false) (env : Env) : swappedStores [tg] x env = pure none := by
  cases tg <;> first
    | rfl
    | (cases x <;> first | rfl | (simp [pairB] at h))
section
variable {pg : Pg} {k : Nat} {N : List Str} {XC : XCT} {sc : Scope} {X : Cx} {W : WX} {pos : Pos}
theorem nsw_ok (G : Good pg k N XC sc X) {tg x : Expr} (h : nswB sc tg x = true) (l : Nat) : swapsWithSole [tg] x l X.env = pure false := by
  show swapsWith x (some tg) l X.env = pure false
  cases hx : notComp x with
  | true => exact nc_sw hx _ _ _
  | false =>
    cases tg with
    | Name y py =>
      cases x with
      | ListComp elt gs scope cpos =>
        simp only [nswB, Bool.or_eq_true, Bool.not_eq_true', decide_eq_true_eq] at h
        unfold swapsWith
        simp only
        rcases h with (h | h) | h
        · have ky : X.env.kindOf y = some .cell := G.cl y h
          rw [ky]
          have : ((some NameKind.cell == some NameKind.local) = false) := by decide
          rw [this]
          simp
        · show (pure (_ && _ && (py.line == cpos.line) && _) : Sem Bool) = _
          rw [h]; simp
        · unfold ownB at h
          rw [h]; simp
      | _ => first | (simp [notComp] at hx; done) | (simp only [nswB] at h; rw [hx] at h; cases h)
    | _ => cases x <;> first | rfl | (simp [notComp] at hx)
theorem s_setLc {m : Bool} {elt : E} {tg : Tg} {it : It} {ifs : Es} {own : List (Str × Nat)} {ex tx ix : Expr} {ifx : List Expr} {scope : Scope} {i : Nat} {y : Str} {py spos : Pos} (G : Good pg k N XC sc X) (hy : ltB N sc i y = true)
    (hsw : swB sc (.Name y py) (.ListComp ex [⟨tx, ix, ifx, 0⟩] scope pos) = true) (hb : blkC N sc scope own = true) (hg : tgB N scope tg tx = true) (hin : tgIn (own.map (·.2)) tg = true)
    (hi : PI X tx ix (rdI X.K XC W pg k it)) (hfold : ∀ x, foldedSetIterable ix X.env x = pure x) (hifs : ifs = .nil ∨ ∃ e, ifs = .cons e .nil)
    (ht : ∀ X', Good pg k N XC scope X' → X'.K = X.K → X'.w = X.w → PTs X' ifx (rdTs X.K XC pg k ifs)) (he : ∀ X', Good pg k N XC scope X' → X'.K = X.K → X'.w = X.w → PE X' ex (rdE X.K XC WN pg k elt)) :
    PS X (.Assign [.Name y py] (.ListComp ex [⟨tx, ix, ifx, 0⟩] scope pos) spos) (rdS X.K XC W pg k (.asg (.name i) (.comp m elt tg it ifs own))) := by
  have bk := G.blkOk hb
  unfold ltB at hy
  simp only [Bool.and_eq_true, decide_eq_true_eq] at hy
  simp only [swB, Bool.and_eq_true, decide_eq_true_eq, Bool.not_eq_true'] at hsw
  have hyl := G.lc y hsw.1.1
  have lc := ps_setLc (X := X) (pos := pos) (spos := spos) (i := i) (y := y) (py := py) (g := rdG X.K tg) (tt := rdTs X.K XC pg k ifs) (te := rdE X.K XC WN pg k elt) G.calm (by rw [G.hN]; exact G.nd) (by rw [G.hN]; exact hy.1) hyl
    (sw_true G.kind hyl hsw.1.2 hsw.2) hi bk (fun s H C cl fp => s_tg (G.blk bk.kind s H C cl fp) hg)
    (fun s H C cl fp => ht _ (G.blk bk.kind s H C cl fp) rfl rfl) (fun s H C cl fp => he _ (G.blk bk.kind s H C cl fp) rfl rfl) hfold
  exact PS.imp lc fun D σ H hq => tAsg_main (t := .name i) (fun σ H Q z => comp_main hin hifs σ H Q z) D σ H hq
end
def as1 : List Expr → Option Expr
  | [x] => some x
  | _ => none
theorem as1_ok {l : List Expr} {x : Expr} (h : as1 l = some x) : l = [x] := by
  unfold as1 at h
  split at h
  · cases h; rfl
  · cases h
def asSub : List Expr → Option (Expr × Expr)
  | [.Subscript x y _] => some (x, y)
  | _ => none
theorem asSub_ok {l : List Expr} {x y : Expr} (h : asSub l = some (x, y)) : ∃ p, l = [.Subscript x y p] := by
  unfold asSub at h
  split at h
  · cases h; exact ⟨_, rfl⟩
  · cases h
def asAtt : List Expr → Option (Expr × Str)
  | [.Attribute x f _] => some (x, f)
  | _ => none
theorem asAtt_ok {l : List Expr} {x : Expr} {f : Str} (h : asAtt l = some (x, f)) : ∃ p, l = [.Attribute x f p] := by
  unfold asAtt at h
  split at h
  · cases h; exact ⟨_, rfl⟩
  · cases h
def asTs : List Expr → Option (Expr × Expr × Str)
  | [.Tuple [.Subscript x y _, .Name z _] _ _] => some (x, y, z)
  | _ => none
theorem asTs_ok {l : List Expr} {x y : Expr} {z : Str} (h : asTs l = some (x, y, z)) : ∃ p2 p3 n p4, l = [.Tuple [.Subscript x y p2, .Name z p3] n p4] := by
  unfold asTs at h
  split at h
  · cases h; exact ⟨_, _, _, _, rfl⟩
  · cases h
def notTup : Expr → Bool
  | .Tuple .. => false
  | _ => true
section
variable (pg : Pg) (N : List Str)
mutual
def ckS (sc : Scope) : S → Stmt → Bool
  | .asg t e, q' => match q' with
    | .Assign tgs x _ => match as1 tgs with
      | some tg => ckE pg N sc e x && tgB N sc t tg && plainHd tg && !pairB tg x && (swB sc tg x || nswB sc tg x) && notLck e
      | none => false
    | _ => false
  | .sub o i e, q' => match q' with
    | .Assign tgs x _ => match asSub tgs with
      | some (ox, ix) => ckE pg N sc e x && ckE pg N sc o ox && ckE pg N sc i ix && plainHd ix
      | none => false
    | _ => false
  | .asg2 o i j e, q' => match q' with
    | .Assign tgs x _ => match asTs tgs with
      | some (ox, ix, y) => ckE pg N sc e x && ckE pg N sc o ox && ckE pg N sc i ix && plainHd ix && ltB N sc j y && notTup x
      | none => false
    | _ => false
  | .setT o ks e, q' => match q' with
    | .Assign tgs x _ => match asSub tgs with
      | some (ox, .Tuple xs _ _) => ckE pg N sc e x && ckE pg N sc o ox && ckEs pg N sc ks xs && decide (esLen ks ≤ 1000)
      | _ => false
    | _ => false
  | .sfld c o f e, q' => match q' with
    | .Assign tgs x _ => match asAtt tgs with
      | some (ox, g) => decide (g = f) && ckE pg N sc e x && ckE pg N sc o ox && flB pg c f
      | none => false
    | _ => false
  | .aug i e, q' => match q' with
    | .AugAssign (.Name y _) .Add x _ => ltB N sc i y && ckE pg N sc e x
    | _ => false
  | .expr e, q' => match q' with
    | .Expr x _ => ckE pg N sc e x && notComp x
    | _ => false
  | .ret e, q' => match q' with
    | .Return (some x) _ => ckE pg N sc e x
    | _ => false
  | .retN, q' => match q' with
    | .Return none _ => true
    | _ => false
  | .iff c a b, q' => match q' with
    | .If x as bs _ => ckE pg N sc c x && ckSs sc a as && ckSs sc b bs
    | _ => false
  | .forr t it b, q' => match q' with
    | .For tg x bs [] _ => tgB N sc t tg && ckI pg N sc it tg x && ckSs sc b bs
    | _ => false
  | .whl _ c b, q' => match q' with
    | .While x bs [] _ => ckE pg N sc c x && ckSs sc b bs
    | _ => false
  | .pass, q' => match q' with
    | .Pass _ => true
    | .Expr (.Constant (.str _) _ _) _ => true
    | _ => false
  | .brk, q' => match q' with
    | .Break _ => true
    | _ => false
  | .cnt, q' => match q' with
    | .Continue _ => true
    | _ => false
  | .stop, _ => true
  | .lckS _ s, q' => ckS sc s q'
  | .lckN _ _ s, q' => ckS sc s q'
  | .raise c, q' => match q' with
    | .Raise (some (.Call (.Name y _) [.Constant (.str _) _ _] [] _)) none _ => decide (y = c) && pg.rs.contains c && glB sc c
    | _ => false
  | .tryS b hs, q' => match q' with
    | .Try bs hds [] [] _ => ckSs sc b bs && tryB pg N sc hs hds
    | _ => false
def ckSs (sc : Scope) : Ss → List Stmt → Bool
  | .nil, [] => true
  | .cons s ss, x :: xs => ckS sc s x && ckSs sc ss xs
  | _, _ => false
end
end
section
variable {pg : Pg} {k : Nat} {N : List Str} {XC : XCT}
theorem ck_comp {sc : Scope} {e : E} {ex : Expr} {gs : List Comprehension} {scope : Scope} {p : Pos} (hn : notLck e = true) (h : ckE pg N sc e (.ListComp ex gs scope p) = true) : ∃ m elt tg it ifs own tx ix ifx, e = .comp m elt tg it ifs own ∧ gs = [⟨tx, ix, ifx, 0⟩] ∧
    blkC N sc scope own = true ∧ ckE pg N scope elt ex = true ∧ tgB N scope tg tx = true ∧ tgIn (own.map (·.2)) tg = true ∧ ckI pg N sc it tx ix = true ∧ ckEs pg N scope ifs ifx = true ∧ esLen ifs ≤ 1 := by
  cases e with
  | comp m elt tg it ifs own =>
    simp only [ckE] at h
    split at h
    · cases h
    · rename_i q1
      unfold asComp at q1
      split at q1
      · rename_i q2
        cases q2
        cases q1
        simp only [Bool.and_eq_true, decide_eq_true_eq] at h
        obtain ⟨⟨⟨⟨⟨⟨h1, h2⟩, h3⟩, h4⟩, h5⟩, h6⟩, h7⟩ := h
        exact ⟨_, _, _, _, _, _, _, _, _, rfl, rfl, h1, h2, h3, h4, h5, h6, h7⟩
      · cases q1
  | lck _ _ => simp [notLck] at hn
  | lenS _ => simp [ckE, asCall1] at h
  | lrep _ _ => simp [ckE, asRep] at h
  | lrepD _ _ => simp [ckE, asRepD] at h
  | fld _ _ _ => simp [ckE, asAttr] at h
  | ddisp _ _ => simp [ckE, asDict] at h
  | isi _ _ => simp [ckE, asCall2] at h
  | spc1 _ _ _ => simp [ckE, asCall1] at h
  | spc2 _ _ _ => simp [ckE, asCall1] at h
  | isiT _ _ => simp [ckE, asCall2] at h
  | _ => simp [ckE] at h
theorem ck_raise {sc : Scope} {c : Str} {x : Stmt} (h : ckS pg N sc (.raise c) x = true) : ∃ p m j p2 p3 pos, x = .Raise (some (.Call (.Name c p) [.Constant (.str m) j p2] [] p3)) none pos ∧ c ∈ pg.rs ∧ glB sc c = true := by
  unfold ckS at h
  split at h
  · rename_i y p m j p2 p3 pos
    simp only [Bool.and_eq_true, decide_eq_true_eq] at h
    obtain ⟨⟨h1, h2⟩, h3⟩ := h
    subst h1
    exact ⟨_, _, _, _, _, _, rfl, by simpa using h2, h3⟩
  · cases h
theorem ck_asg {sc : Scope} {t : Tg} {e : E} {x : Stmt} (h : ckS pg N sc (.asg t e) x = true) : ∃ tg v pos, x = .Assign [tg] v pos ∧ ckE pg N sc e v = true ∧ tgB N sc t tg = true ∧ plainHd tg = true ∧ pairB tg v = false ∧ (swB sc tg v = true ∨ nswB sc tg v = true) ∧ notLck e = true := by
  cases x with
  | Assign tgs v pos =>
    simp only [ckS] at h
    split at h
    · rename_i tg e1
      have := as1_ok e1
      subst this
      simp only [Bool.and_eq_true, Bool.not_eq_true', Bool.or_eq_true] at h
      exact ⟨tg, v, pos, rfl, h.1.1.1.1.1, h.1.1.1.1.2, h.1.1.1.2, h.1.1.2, h.1.2, h.2⟩
    · cases h
  | _ => simp [ckS] at h
theorem ck_sub {sc : Scope} {o i e : E} {x : Stmt} (h : ckS pg N sc (.sub o i e) x = true) : ∃ ox ix p2 v pos, x = .Assign [.Subscript ox ix p2] v pos ∧ ckE pg N sc e v = true ∧ ckE pg N sc o ox = true ∧ ckE pg N sc i ix = true ∧ plainHd ix = true := by
  cases x with
  | Assign tgs v pos =>
    simp only [ckS] at h
    split at h
    · rename_i ox ix e1
      obtain ⟨p2, rfl⟩ := asSub_ok e1
      simp only [Bool.and_eq_true] at h
      exact ⟨ox, ix, p2, v, pos, rfl, h.1.1.1, h.1.1.2, h.1.2, h.2⟩
    · cases h
  | _ => simp [ckS] at h
theorem s_lckS {i : Nat} {s : S} {x : Stmt} {X : Cx} {W : WX} (ih : PS X x (rdS X.K XC W pg k s)) : PS X x (rdS X.K XC W pg k (.lckS i s)) := by
  refine PS.imp (ps_lock ih) fun D σ H hq => ?_
  obtain ⟨B, μ, h, ρ, rl, sl, p⟩ := hq
  simp only [evS] at p
  split at p
  · rename_i n en
    split at p
    · rename_i l el
      obtain ⟨a, kvs, ha, hH, lo⟩ := rl.lock el
      refine ⟨a, .dK kvs, hH, trivial, fun od => ?_⟩
      obtain ⟨st1, rl1⟩ := lo od
      refine ⟨B, μ, h.set n (.fz l), ρ, rl1, sl.step st1, ?_⟩
      cases er : evS (run pg k) pg.gl s ρ (h.set n (.fz l)) with
      | error z => rw [er] at p; exact p.elim
      | ok r =>
        obtain ⟨fl, ρ2, h2⟩ := r
        rw [er] at p
        simp only at p
        split at p
        · exact p.elim
        · rename_i nx
          split at p
          · rename_i m em
            intro σ' μ2 H2 st2 rl2 sl2
            have hfz : H2 a = some (.frz od (.dK kvs)) := st2.fz _ _ _ upd_same
            have ha2 := st2.get ha
            obtain ⟨rl3, rp3⟩ := rl2.unlock em ha2 hfz
            have sl3 : Slots X.K B μ2 (upd H2 a (.dK kvs)) ρ2 σ' := ⟨sl2.1, fun j v e => by
              obtain ⟨y, e1, r⟩ := sl2.2 j v e
              exact ⟨y, e1, rp3 r⟩⟩
            have q := p σ' μ2 _ (Step.locked hH (by intro _ _ z; cases z) (List.mem_of_getElem? ha) st2) rl3 sl3
            cases fl with
            | nx => exact ⟨hfz, q⟩
            | ret v => exact fun y r => ⟨hfz, q y (rp3 r)⟩
            | bk => exact ⟨hfz, q⟩
            | ct => exact ⟨hfz, q⟩
            | ex c => exact (nx rfl).elim
          · exact p.elim
    · exact p.elim
  · exact p.elim
theorem s_lckN {i : Nat} {js : List Nat} {s : S} {x : Stmt} {X : Cx} {W : WX} (ih : PS X x (rdS X.K XC W pg k s)) : PS X x (rdS X.K XC W pg k (.lckN i js s)) := by
  refine PS.imp (ps_lock ih) fun D σ H hq => ?_
  obtain ⟨B, μ, h, ρ, rl, sl, p⟩ := hq
  simp only [evS] at p
  split at p
  · split at p
    · rename_i n en
      split at p
      · rename_i l el
        obtain ⟨a, xs, ha, hH, lo⟩ := rl.lockN el
        refine ⟨a, .ext (RawN X.K a xs), hH, trivial, fun od => ?_⟩
        obtain ⟨st1, rl1⟩ := lo od
        refine ⟨B, μ, h.set n (.fzN l), ρ, rl1, sl.step st1, ?_⟩
        cases er : evS (run pg k) pg.gl s ρ (h.set n (.fzN l)) with
        | error z => rw [er] at p; exact p.elim
        | ok r =>
          obtain ⟨fl, ρ2, h2⟩ := r
          rw [er] at p
          simp only at p
          split at p
          · exact p.elim
          · rename_i nx
            split at p
            · rename_i m em
              intro σ' μ2 H2 st2 rl2 sl2
              have hfz : H2 a = some (.frz od (.ext (RawN X.K a xs))) := st2.fz _ _ _ upd_same
              have ha2 := st2.get ha
              obtain ⟨rl3, rp3⟩ := rl2.unlockN em ha2 hfz
              have sl3 : Slots X.K B μ2 (upd H2 a (.ext (RawN X.K a xs))) ρ2 σ' := ⟨sl2.1, fun j v e => by
                obtain ⟨y, e1, r⟩ := sl2.2 j v e
                exact ⟨y, e1, rp3 r⟩⟩
              have q := p σ' μ2 _ (Step.locked hH (by intro _ _ z; cases z) (List.mem_of_getElem? ha) st2) rl3 sl3
              cases fl with
              | nx => exact ⟨hfz, q⟩
              | ret v => exact fun y r => ⟨hfz, q y (rp3 r)⟩
              | bk => exact ⟨hfz, q⟩
              | ct => exact ⟨hfz, q⟩
              | ex c => exact (nx rfl).elim
            · exact p.elim
      · exact p.elim
    · exact p.elim
  · exact p.elim
theorem s_asgA {t : Tg} {e : E} {x : Stmt} {sc : Scope} {X : Cx} {W : WX} (h : ckS pg N sc (.asg t e) x = true) (G : Good pg k N XC sc X) (tk : Takes X W) : PS X x (rdS X.K XC W pg k (.asg t e)) := by
  obtain ⟨tg, v, pos, rfl, h1, h2, h3, h4, h5, hn⟩ := ck_asg h
  cases hs : swB sc tg v with
  | false =>
    rw [hs] at h5
    exact s_asg G (sE e h1 G tk).1 h2 h3 (nsw_ok G (h5.resolve_left Bool.false_ne_true) pos.line) (nopair h4 X.env)
  | true =>
    cases tg with
    | Name y py =>
      cases v with
      | ListComp ex gs scope cpos =>
        cases t with
        | name i =>
          obtain ⟨m, elt, tg, it, ifs, own, tx, ix, ifx, rfl, rfl, c1, c2, c3, c4, c5, c6, c7⟩ := ck_comp hn h1
          obtain ⟨hi, hfold⟩ := sI it c5 G tk
          refine s_setLc G (by simpa only [tgB] using h2) hs c1 c3 c4 hi (hfold X.env) (by
            cases ifs with
            | nil => exact .inl rfl
            | cons e es' =>
              cases es' with
              | nil => exact .inr ⟨e, rfl⟩
              | cons _ _ => simp only [esLen] at c7; omega) (fun X' G' hK hw => ?_) fun X' G' hK hw => ?_
          · rw [← rdTs_eq hK hw]; exact sTs ifs c6 c7 G'
          · rw [← rdE_eq hK hw]; exact (sE elt c2 G' takes0).1
        | _ => simp [tgB] at h2
      | _ => simp [swB] at hs
    | _ => simp [swB] at hs
theorem s_subA {o i e : E} {x : Stmt} {sc : Scope} {X : Cx} {W : WX} (h : ckS pg N sc (.sub o i e) x = true) (G : Good pg k N XC sc X) (tk : Takes X W) : PS X x (rdS X.K XC W pg k (.sub o i e)) := by
  obtain ⟨ox, ix, p2, v, pos, rfl, h1, h2, h3, h4⟩ := ck_sub h
  exact s_sub (by have := G.room.units; omega) (sE o h2 G tk).1 (sE i h3 G tk).1 (sE e h1 G tk).1 h4 (nsw_ok G rfl pos.line) (nopair rfl X.env)
theorem s_setTA {o e : E} {ks : Es} {x : Stmt} {sc : Scope} {X : Cx} {W : WX} (h : ckS pg N sc (.setT o ks e) x = true) (G : Good pg k N XC sc X) (tk : Takes X W) : PS X x (rdS X.K XC W pg k (.setT o ks e)) := by
  cases x with
  | Assign tgs v pos =>
    simp only [ckS] at h
    split at h
    · rename_i ox xs tn tp e1
      obtain ⟨p2, rfl⟩ := asSub_ok e1
      simp only [Bool.and_eq_true, decide_eq_true_eq] at h
      obtain ⟨⟨⟨h1, h2⟩, h3⟩, h4⟩ := h
      exact s_setT (by have := G.room.units; omega) (sE o h2 G tk).1 (sEs ks h3 G tk) (sE e h1 G tk).1 h4 (nsw_ok G rfl pos.line) (nopair rfl X.env)
    · cases h
  | _ => simp [ckS] at h
theorem s_sfldA {c f : Str} {o e : E} {x : Stmt} {sc : Scope} {X : Cx} {W : WX} (h : ckS pg N sc (.sfld c o f e) x = true) (G : Good pg k N XC sc X) (tk : Takes X W) : PS X x (rdS X.K XC W pg k (.sfld c o f e)) := by
  cases x with
  | Assign tgs v pos =>
    simp only [ckS] at h
    split at h
    · rename_i ox g e1
      obtain ⟨p2, rfl⟩ := asAtt_ok e1
      simp only [Bool.and_eq_true, decide_eq_true_eq] at h
      obtain ⟨⟨⟨h1, h2⟩, h3⟩, h4⟩ := h
      subst h1
      exact s_sfld G h4 (sE o h3 G tk).1 (sE e h2 G tk).1 (show swapsWithSole [.Attribute ox g p2] v pos.line X.env = pure false from nsw_ok (tg := .Attribute ox g p2) (x := v) G rfl pos.line)
    · cases h
  | _ => simp [ckS] at h
theorem s_asg2A {o i e : E} {j : Nat} {x : Stmt} {sc : Scope} {X : Cx} {W : WX} (h : ckS pg N sc (.asg2 o i j e) x = true) (G : Good pg k N XC sc X) (tk : Takes X W) : PS X x (rdS X.K XC W pg k (.asg2 o i j e)) := by
  cases x with
  | Assign tgs v pos =>
    simp only [ckS] at h
    split at h
    · rename_i ox ix y e1
      obtain ⟨p2, p3, n, p4, rfl⟩ := asTs_ok e1
      simp only [Bool.and_eq_true] at h
      obtain ⟨⟨⟨⟨⟨h1, h2⟩, h3⟩, h4⟩, h5⟩, h6⟩ := h
      exact s_asg2 (by have := G.room.units; omega) G h5 (sE o h2 G tk).1 (sE i h3 G tk).1 (sE e h1 G tk).1 h4 (nsw_ok G rfl pos.line) (nopair (by cases v <;> first | rfl | cases h6) X.env)
    · cases h
  | _ => simp [ckS] at h
mutual
theorem sS : ∀ (s : S) {x : Stmt} {sc : Scope} {X : Cx} {W : WX}, ckS pg N sc s x = true → Good pg k N XC sc X → Takes X W → PassesOwn (model X.prog X.w) X.A X.env X.xe → (X.stack = X.env :: X.outer ∧ X.env.frame = some X.env.locals) → PS X x (rdS X.K XC W pg k s)
  | .asg t e, x, sc, X, W, h, G, tk, pp, hfr => s_asgA h G tk
  | .sub o i e, x, sc, X, W, h, G, tk, pp, hfr => s_subA h G tk
  | .asg2 o i j e, x, sc, X, W, h, G, tk, pp, hfr => s_asg2A h G tk
  | .setT o ks e, x, sc, X, W, h, G, tk, pp, hfr => s_setTA h G tk
  | .sfld c o f e, x, sc, X, W, h, G, tk, pp, hfr => s_sfldA h G tk
  | .aug i e, x, sc, X, W, h, G, tk, pp, hfr => by
    cases x with
    | AugAssign tg op v pos =>
      cases tg with
      | Name y p2 =>
        cases op with
        | Add =>
          simp only [ckS, Bool.and_eq_true] at h
          exact s_aug G h.1 (sE e h.2 G tk).1
        | _ => simp [ckS] at h
      | _ => simp [ckS] at h
    | _ => simp [ckS] at h
  | .expr e, x, sc, X, W, h, G, tk, pp, hfr => by
    cases x with
    | Expr v pos =>
      simp only [ckS, Bool.and_eq_true] at h
      exact s_expr (sE e h.1 G tk).1 (nc_sw h.2 _ _ _)
    | _ => simp [ckS] at h
  | .ret e, x, sc, X, W, h, G, tk, pp, hfr => by
    cases x with
    | Return v pos =>
      cases v with
      | some v => simp only [ckS] at h; exact s_ret (sE e h G tk).1
      | none => simp [ckS] at h
    | _ => simp [ckS] at h
  | .retN, x, sc, X, W, h, G, tk, pp, hfr => by
    cases x with
    | Return v pos =>
      cases v with
      | none => exact s_retN
      | some v => simp [ckS] at h
    | _ => simp [ckS] at h
  | .iff c a b, x, sc, X, W, h, G, tk, pp, hfr => by
    cases x with
    | If c2 a2 b2 pos =>
      simp only [ckS, Bool.and_eq_true] at h
      exact s_if (sE c h.1.1 G tk).2 (sSs a h.1.2 G tk pp hfr) (sSs b h.2 G tk pp hfr)
    | _ => simp [ckS] at h
  | .forr t it b, x, sc, X, W, h, G, tk, pp, hfr => by
    cases x with
    | For tg v b2 els pos =>
      cases els with
      | nil =>
        simp only [ckS, Bool.and_eq_true] at h
        obtain ⟨hi, hfold⟩ := sI it h.1.2 G tk
        exact s_for G pp hi (hfold X.env) h.1.1 (sSs b h.2 G tk pp hfr)
      | cons _ _ => simp [ckS] at h
    | _ => simp [ckS] at h
  | .whl n c b, x, sc, X, W, h, G, tk, pp, hfr => by
    cases x with
    | While c2 b2 els pos =>
      cases els with
      | nil =>
        simp only [ckS, Bool.and_eq_true] at h
        exact s_whl pp (sE c h.1 G tk).2 (sSs b h.2 G tk pp hfr)
      | cons _ _ => simp [ckS] at h
    | _ => simp [ckS] at h
  | .pass, x, sc, X, W, h, G, tk, pp, hfr => by
    cases x with
    | Pass pos => exact s_pass' ps_pass
    | Expr v pos =>
      cases v with
      | Constant c n p =>
        cases c with
        | str s => exact s_pass' ps_doc
        | _ => simp [ckS] at h
      | _ => simp [ckS] at h
    | _ => simp [ckS] at h
  | .brk, x, sc, X, W, h, G, tk, pp, hfr => by
    cases x with
    | Break pos => exact s_brk
    | _ => simp [ckS] at h
  | .cnt, x, sc, X, W, h, G, tk, pp, hfr => by
    cases x with
    | Continue pos => exact s_cnt
    | _ => simp [ckS] at h
  | .stop, x, sc, X, W, h, G, tk, pp, hfr => by
    refine ⟨fun pins s σ H D I q => ?_⟩
    obtain ⟨B, μ, h0, ρ, rl, sl, p⟩ := q
    simp only [evS] at p
    exact p.elim
  | .lckS i s, x, sc, X, W, h, G, tk, pp, hfr => by
    simp only [ckS] at h
    exact s_lckS (sS s h G tk pp hfr)
  | .lckN i js s, x, sc, X, W, h, G, tk, pp, hfr => by
    simp only [ckS] at h
    exact s_lckN (sS s h G tk pp hfr)
  | .raise c, x, sc, X, W, h, G, tk, pp, hfr => by
    obtain ⟨p, m, j, p2, p3, pos, rfl, h1, h2⟩ := ck_raise h
    exact s_raise G tk h1 h2
  | .tryS b hs, x, sc, X, W, h, G, tk, pp, hfr => by
    cases x with
    | Try bs hds els fin pos =>
      cases els with
      | nil =>
        cases fin with
        | nil =>
          simp only [ckS, Bool.and_eq_true] at h
          exact s_try G hfr tk h.2 fun W' pn xe tk' pp' => sSs b h.1 (G.tr pn xe) tk' pp' hfr
        | cons _ _ => simp [ckS] at h
      | cons _ _ => simp [ckS] at h
    | _ => simp [ckS] at h
theorem sSs : ∀ (s : Ss) {x : List Stmt} {sc : Scope} {X : Cx} {W : WX}, ckSs pg N sc s x = true → Good pg k N XC sc X → Takes X W → PassesOwn (model X.prog X.w) X.A X.env X.xe → (X.stack = X.env :: X.outer ∧ X.env.frame = some X.env.locals) → PSs X x (rdSs X.K XC W pg k s)
  | .nil, x, sc, X, W, h, G, tk, pp, hfr => by
    cases x with
    | nil => exact s_snil
    | cons _ _ => simp [ckSs] at h
  | .cons s ss, x, sc, X, W, h, G, tk, pp, hfr => by
    cases x with
    | nil => simp [ckSs] at h
    | cons x xs =>
      simp only [ckSs, Bool.and_eq_true] at h
      exact s_scons (sS s h.1 G tk pp hfr) (sSs ss h.2 G tk pp hfr)
end
end
end Rg

namespace Rg
open PySem PySem.Spec PyProof.Rows L2
/-- a function of the text; a method's class -/
structure Rc where
  py : Str
  ix : Nat
  N : List Str
  ps : List Str
  body : Ss
  qn : Str := py
  cl : Option Str := none
  df : Bool := false
def Rc.fd (r : Rc) : FD := ⟨r.py, r.ps.length, r.N.length, r.body⟩
abbrev Mak := String → Option (Str × String)
/-- the classes of exceptions: those that are raised or named in a clause; which clause takes which; which test says what -/
structure Exs where
  rs : List Str := []
  m : List (Str × Str × Bool) := []
  t : List (Str × Str × Bool) := []
  ky : List (String × String) := []
def exLook (l : List (Str × Str × Bool)) (c d : Str) : Option Bool := (l.find? fun p => decide (p.1 = c ∧ p.2.1 = d)).map (·.2.2)
def xmOf (ex : Exs) : String → Str → Str → Option Bool := fun f c d => if f = "<" then exLook ex.m c d else if f = "?" then exLook ex.t c d else none
def pgOf (T : List (String × Rc)) (gl : Gls) (cs : List (Str × List Str) := []) (mak : Mak := fun _ => none) (ex : Exs := {}) : Pg := ⟨fun f => (T.lookup f).map Rc.fd, gl, fun f => (T.lookup f).bind Rc.cl, cs, mak, fun f => match T.lookup f with | some r => r.df | none => false, ex.rs, xmOf ex, fun f => ex.ky.lookup f⟩
def tabOk (st : Nat → Stmt) (T : List (String × Rc)) (gl : Gls) (cs : List (Str × List Str) := []) (mak : Mak := fun _ => none) (ex : Exs := {}) : Bool := T.all fun p => C8.scC p.2.N p.2.ps (defScope (st p.2.ix)) && ckSs (pgOf T gl cs mak ex) p.2.N (defScope (st p.2.ix)) p.2.body (defBody (st p.2.ix))
/-- the defaults: none, or one None -/
def dfV (r : Rc) : List V := if r.df = true then [.non] else []
abbrev FunR (K : PySem.W.Frag) (st : Nat → Stmt) (r : Rc) (a : Addr) (fdt : FuncData) : Prop := L2.FunD K r.py r.qn (defArgs (st r.ix)) (defBody (st r.ix)) (defScope (st r.ix)) (dfV r) [] a fdt
/-- how it stands behind the top -/
structure FnIn (K : PySem.W.Frag) (mg : Str → Option Value) (st : Nat → Stmt) (r : Rc) : Prop where
  ex : ∃ a fdt, FunR K st r a fdt ∧ (Binds K fdt r.ps [] ∧ (r.df = true → Binds K fdt r.ps [.none])) ∧ match r.cl with
    | none => mg r.py = some (.ref a)
    | some c => ∃ C, CA K c C ∧ Cls K C ∧ Meth K C r.py a
/-- the classes behind the top -/
structure ClIn (K : PySem.W.Frag) (mg : Str → Option Value) (T : List (String × Rc)) (cs : List (Str × List Str)) (mak : Mak) : Prop where
  fl : ∀ c l, (c, l) ∈ cs → ∃ C, CA K c C ∧ Cls K C ∧ ∀ f ∈ l, NoAttr K C f
  mak : ∀ f c g, mak f = some (c, g) → ∃ r C, T.lookup g = some r ∧ r.cl = some c ∧ CA K c C ∧ mg c = some (.ref C) ∧ ∀ a, Meth K C r.py a → Mk K C a
theorem ClIn.none {K : PySem.W.Frag} {mg : Str → Option Value} {T : List (String × Rc)} : ClIn K mg T [] (fun _ => none) := ⟨fun _ _ h => by simp at h, fun _ _ _ h => by cases h⟩
theorem mem_of_lookupS {α : Type} {f : String} {r : α} : ∀ {T : List (String × α)}, T.lookup f = some r → (f, r) ∈ T
  | [], h => by simp at h
  | (g, q) :: T, h => by
    rw [List.lookup_cons] at h
    split at h
    · rename_i e
      have : f = g := by simpa using e
      subst this
      cases h
      exact List.mem_cons_self
    · exact List.mem_cons_of_mem _ (mem_of_lookupS h)
theorem mem_of_lookupS' {α : Type} {f : Str} {r : α} : ∀ {T : List (Str × α)}, T.lookup f = some r → (f, r) ∈ T
  | [], h => by simp at h
  | (g, q) :: T, h => by
    rw [List.lookup_cons] at h
    split at h
    · rename_i e
      have : f = g := by simpa using e
      subst this
      cases h
      exact List.mem_cons_self
    · exact List.mem_cons_of_mem _ (mem_of_lookupS' h)
theorem scopeOk {N ps : List Str} {sc : Scope} (h : C8.scC N ps sc = true) : FnScope N ps sc := by
  have q := C8.fnScope_by h
  exact ⟨q.kind, q.co, q.gen, q.nd, q.pre, q.par, q.nofree⟩
section
variable {P : Program} {w : World} {K : PySem.W.Frag} {mg : Str → Option Value} {base : Heap} {T : List (String × Rc)} {gl : Gls} {XC : XCT} {st : Nat → Stmt} {cs : List (Str × List Str)} {mak : Mak} {ex : Exs}
abbrev FnsT (P : Program) (w : World) (K : PySem.W.Frag) (mg : Str → Option Value) (base : Heap) (pg : Pg) (XC : XCT) (k : Nat) : Prop :=
  (∀ f d, pg.fn f = some d → pg.cl f = none → ∃ a fdt ps, mg d.py = some (.ref a) ∧ PySem.W.keepIn K (.ref a) = true ∧ Binds K fdt ps [] ∧ FnOk P w K mg base (L2.CX P w) k a fdt ps (@spF K ⟨w⟩ XC pg k f)) ∧
  (∀ f d c, pg.fn f = some d → pg.cl f = some c → ∃ C a fdt ps, CA K c C ∧ Cls K C ∧ Meth K C d.py a ∧ (Binds K fdt ps [] ∧ (pg.df f = true → Binds K fdt ps [.none])) ∧ FnOk P w K mg base (L2.CX P w) k a fdt ps (@spF K ⟨w⟩ XC pg k f))
abbrev MksT (P : Program) (w : World) (K : PySem.W.Frag) (mg : Str → Option Value) (base : Heap) (pg : Pg) (XC : XCT) (k : Nat) : Prop :=
  ∀ f c g, pg.mak f = some (c, g) → ∃ C a, CA K c C ∧ Mk K C a ∧ mg c = some (.ref C) ∧ ∀ k', k = k' + 1 → ∃ fdt ps, Binds K fdt ps [] ∧ FnOk P w K mg base (L2.CX P w) k' a fdt ps (@spF K ⟨w⟩ XC pg k' g)
theorem fn_step {k : Nat} {f : String} {r : Rc} {a : Addr} {fdt : FuncData} (h0 : (pgOf T gl cs mak ex).fn f = some r.fd) (F : FunR K st r a fdt) (S : FnScope r.N r.ps (defScope (st r.ix))) (ck : ckSs (pgOf T gl cs mak ex) r.N (defScope (st r.ix)) r.body (defBody (st r.ix)) = true)
    (hgl : ∀ x v, gl x = some v → ∃ u V, mg x = some u ∧ RelV V u ∧ ∀ (iw : Wd K) B μ H, Rep K B μ H v V) (hb : ∀ x ∈ bltNames, mg x = none)
    (IH : FnsT P w K mg base (pgOf T gl cs mak ex) XC k) (IM : MksT P w K mg base (pgOf T gl cs mak ex) XC k) (IU : ∀ k', k = k' + 1 → FnsT P w K mg base (pgOf T gl cs mak ex) XC k') (hcl : ClIn K mg T cs mak) (hex : ExOk K mg (pgOf T gl cs mak ex) XC) :
    FnOk P w K mg base (L2.CX P w) (k + 1) a fdt r.ps (@spF K ⟨w⟩ XC (pgOf T gl cs mak ex) (k + 1) f) := by
  letI : Wd K := ⟨w⟩
  -- what a run of it is
  have hrun : ∀ {ps : List PV} {h1 : MH} {Q : VK} {W : WX} {B μ : List Addr} {H : Hp}, PostG K B XC W [] (Rep K B) Q (run (pgOf T gl cs mak ex) (k + 1) f ps h1) μ H → ps.length = r.ps.length ∧
      PostG K B XC W [] (Rep K B) Q (match evSs (run (pgOf T gl cs mak ex) k) gl r.body (ps.map some ++ List.replicate (r.N.length - r.ps.length) none) h1 with
        | .ok (.nx, _, h') => .ok (.non, h')
        | .ok (.ret v, _, h') => .ok (v, h')
        | .ok (.ex c, _, h') => .error (.exc c h')
        | .ok (_, _, _) => stk
        | .error _ => stk) μ H := fun {ps h1 Q W B μ H} p => by
    rw [run, h0] at p
    simp only at p
    split at p
    · rename_i hl
      exact ⟨hl, p⟩
    · exact p.elim
  refine L2.FunD.ok F S (fun vs H Q E z => ?_) fun cdv A outer s H vs Q E hr z => ?_
  · obtain ⟨B, μ, h1, ps, rl, rp, z⟩ := z
    rw [← rp.length]
    exact (hrun z).1
  · obtain ⟨B, μ, h1, ps, rl, rp, z⟩ := z
    obtain ⟨hl, z⟩ := hrun z
    have G : Good (pgOf T gl cs mak ex) k r.N XC (defScope (st r.ix)) (cxOf (L2.CX P w) P w K mg base r.N r.qn (defScope (st r.ix)) a cdv A outer s H E) :=
      { hN := rfl, nd := S.nd, calm := rfl, room := hr, kind := S.kind
        vis := fun x h => by
          unfold visB at h
          split at h
          · rename_i e; exact .inl e
          · rename_i e; exact .inr (.inl e)
          · rename_i e; exact .inr (.inr e)
          · cases h
        loc := fun x h => by
          unfold locB at h
          split at h
          · rename_i e; exact ⟨.inl e, .inl rfl⟩
          · rename_i e; exact ⟨.inr e, .inl rfl⟩
          · cases h
        lc := fun _ h => h, cl := fun _ h => h, gl := fun _ h => h, cap := fun _ h => h
        fns := IH.1
        gls := fun x v e => by obtain ⟨u, V, h1, h2, h3⟩ := hgl x v e; exact ⟨u, V, h1, h2, h3 _⟩
        blt := hb
        fls := fun c f h => by
          unfold flB at h
          split at h
          · rename_i l el
            obtain ⟨C, h1, h2, h3⟩ := hcl.fl c l (mem_of_lookupS' el)
            exact ⟨C, h1, h2, h3 f (by simpa using h)⟩
          · cases h
        mts := IH.2
        exs := hex
        ups := fun k' e => (IU k' e).1
        mks := IM }
    refine ⟨_, sSs r.body (W := fun cls d _ H => E cls d H) ck G (L2.takes_of rfl rfl rfl rfl) (L2.passes_of rfl) ⟨rfl, rfl⟩, B, μ, h1, ps.map some ++ List.replicate (r.N.length - r.ps.length) none, rl, ?_, ?_⟩
    · refine ⟨?_, fun i v e => ?_⟩
      · unfold L2.start
        rw [List.length_append, List.length_append, List.length_map, List.length_map, List.length_replicate, List.length_replicate, rp.length, ← hl, rp.length]
      · by_cases hi : i < ps.length
        · rw [List.getElem?_append_left (by simpa using hi), List.getElem?_map] at e
          cases ei : ps[i]? with
          | none => rw [ei] at e; cases e
          | some q =>
            rw [ei] at e
            cases e
            obtain ⟨y, ey, ry⟩ := rp.get ei
            refine ⟨y, ?_, ry⟩
            unfold L2.start
            rw [List.getElem?_append_left (by rw [List.length_map, ← rp.length]; exact hi), List.getElem?_map, ey]
            rfl
        · rw [List.getElem?_append_right (by simpa using hi), List.getElem?_replicate] at e
          split at e <;> cases e
    · show PostS K B XC _ _ (evSs (run (pgOf T gl cs mak ex) k) gl r.body (ps.map some ++ List.replicate (r.N.length - r.ps.length) none) h1) μ H
      cases er : evSs (run (pgOf T gl cs mak ex) k) gl r.body (ps.map some ++ List.replicate (r.N.length - r.ps.length) none) h1 with
      | error er' => rw [er] at z; exact z.elim
      | ok q =>
        obtain ⟨fl, ρ, h2⟩ := q
        rw [er] at z
        intro σ' μ' H' st rl2 sl2
        cases fl with
        | nx => exact z .non μ' H' st rl2 .non
        | ret v => exact fun x rx => z x μ' H' st rl2 rx
        | bk => exact z.elim
        | ct => exact z.elim
        | ex c => exact fun cls d xc => z cls d μ' H' st rl2 xc
theorem fns_ok (hck : tabOk st T gl cs mak ex = true) (hT : ∀ p ∈ T, FnIn K mg st p.2) (hgl : ∀ x v, gl x = some v → ∃ u V, mg x = some u ∧ RelV V u ∧ ∀ (iw : Wd K) B μ H, Rep K B μ H v V) (hb : ∀ x ∈ bltNames, mg x = none) (hcl : ClIn K mg T cs mak) (hex : ExOk K mg (pgOf T gl cs mak ex) XC) :
    ∀ (k : Nat), FnsT P w K mg base (pgOf T gl cs mak ex) XC k ∧ MksT P w K mg base (pgOf T gl cs mak ex) XC k := by
  intro k
  induction k using Nat.strongRecOn with
  | ind k ih =>
    -- every entry's promise
    have ent : ∀ f r, T.lookup f = some r → ∀ a fdt, FunR K st r a fdt → FnOk P w K mg base (L2.CX P w) k a fdt r.ps (@spF K ⟨w⟩ XC (pgOf T gl cs mak ex) k f) := fun f r e a fdt F => by
      cases k with
      | zero =>
        refine ⟨fun vs H Q E z => ?_, fun A outer s H args us vs Q E _ _ _ _ z => ?_⟩
        · obtain ⟨B, μ, h0, ps, _, _, z⟩ := z
          exact z.elim
        · obtain ⟨B, μ, h0, ps, _, _, z⟩ := z
          exact z.elim
      | succ k =>
        have h0 : (pgOf T gl cs mak ex).fn f = some r.fd := by unfold pgOf; simp only [e]; rfl
        have ck := List.all_eq_true.mp hck _ (mem_of_lookupS e)
        simp only [Bool.and_eq_true] at ck
        obtain ⟨i1, i2⟩ := ih k (Nat.lt_succ_self _)
        exact fn_step h0 F (scopeOk ck.1) ck.2 hgl hb i1 i2 (fun k' e => (ih k' (by omega)).1) hcl hex
    refine ⟨⟨fun f d h hc => ?_, fun f d c h hc => ?_⟩, fun f c g hm => ?_⟩
    · unfold pgOf at h hc
      simp only at h hc
      cases e : T.lookup f with
      | none => rw [e] at h; cases h
      | some r =>
        rw [e] at h hc
        cases h
        obtain ⟨a, fdt, F, bd, hx⟩ := (hT _ (mem_of_lookupS e)).ex
        have hc' : r.cl = none := hc
        simp only [hc'] at hx
        exact ⟨a, fdt, r.ps, hx, F.kp, bd.1, ent f r e a fdt F⟩
    · unfold pgOf at h hc
      simp only at h hc
      cases e : T.lookup f with
      | none => rw [e] at h; cases h
      | some r =>
        rw [e] at h hc
        cases h
        obtain ⟨a, fdt, F, bd, hx⟩ := (hT _ (mem_of_lookupS e)).ex
        have hc' : r.cl = some c := hc
        simp only [hc'] at hx
        obtain ⟨C, h1, h2, h3⟩ := hx
        exact ⟨C, a, fdt, r.ps, h1, h2, h3, ⟨bd.1, fun hd => bd.2 (by unfold pgOf at hd; simp only [e] at hd; exact hd)⟩, ent f r e a fdt F⟩
    · obtain ⟨r, C, e, hc', hC, hmg, hmk⟩ := hcl.mak f c g hm
      obtain ⟨a, fdt, F, bd, hx⟩ := (hT _ (mem_of_lookupS e)).ex
      simp only [hc'] at hx
      obtain ⟨C', h1, h2, h3⟩ := hx
      obtain rfl := hC.uniq h1
      refine ⟨C, a, hC, hmk a h3, hmg, fun k' ek => ?_⟩
      obtain ⟨i1, _⟩ := ih k' (by omega)
      obtain ⟨C2, a2, fdt2, ps2, q1, q2, q3, q4, q5⟩ := i1.2 g r.fd c (by unfold pgOf; simp only [e]; rfl) (by unfold pgOf; simp only [e]; exact hc')
      obtain rfl := hC.uniq q1
      have : a2 = a := by
        have z1 := q3.at_
        have z2 := h3.at_
        have z3 : r.fd.py = r.py := rfl
        rw [z3] at z1
        rw [z1] at z2
        cases z2
        rfl
      subst this
      exact ⟨fdt2, ps2, q4.1, q5⟩
end
theorem reps_ints {K : PySem.W.Frag} [Wd K] {B μ : List Addr} {H : Hp} : ∀ ns : List Int, Reps K B μ H (ns.map PV.int) (ns.map V.int)
  | [] => .nil
  | n :: ns => .cons .int (reps_ints ns)
/-- the script's promise -/
theorem law_sp {K : PySem.W.Frag} [Wd K] {XC : XCT} {pg : Pg} {k : Nat} {a : Addr} {ns : List Int} {H : Hp} {f : String} (hS : SqL K H a (ns.map V.int)) (hr : ∃ h', run pg k f [.lst (ns.map PV.int)] [] = .ok (.bl true, h')) :
    spF K XC pg k f [.ref a] H (fun v _ => v = .bl true) (fun _ _ _ => False) := by
  obtain ⟨h', hr⟩ := hr
  refine ⟨[], [], [], [.lst (ns.map PV.int)], ⟨rfl, List.nodup_nil, fun _ z => by simp at z, fun _ z => by simp at z, fun n c e => by simp at e⟩, .cons (Rep.lst_iff.mpr ⟨a, _, rfl, ?_, reps_ints ns⟩) .nil, ?_⟩
  · rcases hS with h | h
    · exact .inl ⟨h, by simp, by simp⟩
    · exact .inr h
  · rw [hr]
    exact fun x μ' H' _ _ r => Rep.bl_iff.mp r
end Rg

namespace Rg
open PySem PySem.Spec PyProof.Rows L2
theorem have1 {A B : Prop} (a : A) (f : A → B) : B := f a
structure FnAt (K : PySem.W.Frag) (mg : Str → Option Value) (st : Nat → Stmt) (r : Rc) : Prop where
  cn : r.cl = none
  qn : r.qn = r.py
  df : r.df = false
  ex : ∃ (a : Addr) (kV doc pm : Value) (an : Option Addr) (cdv ct : Value), Fun K r.py r.py (st r.ix) a (PySem.W.fnOf r.py r.py (defArgs (st r.ix)) (defBody (st r.ix)) (defScope (st r.ix)) .none kV doc pm an cdv ct) ∧ mg r.py = some (.ref a) ∧
    ∀ (kV doc pm : Value) (an : Option Addr) (cdv ct : Value) (us : List Value), us.length = r.ps.length → bindArgs (PySem.W.fnOf r.py r.py (defArgs (st r.ix)) (defBody (st r.ix)) (defScope (st r.ix)) .none kV doc pm an cdv ct) ⟨us, []⟩ = pure (r.ps.zip us)
section
variable {K : PySem.W.Frag} {mg : Str → Option Value} {st : Nat → Stmt} {r : Rc} {h : Heap}
theorem fnat_mk {f : Addr} {oc : Value} {od an : Option Addr} {osl : Array (Option Value)} {kV doc pm cdv ct : Value} (X : K.In h) (G : h.Ns mainGlobals mg) (a : PySem.W.nsIn K mainGlobals r.py = some (some (.ref f)))
    (l : K.lookup f = some ⟨oc, od, .func (PySem.W.fnOf r.py r.py (defArgs (st r.ix)) (defBody (st r.ix)) (defScope (st r.ix)) .none kV doc pm an cdv ct), osl⟩) (c : PySem.W.codeIn K cdv r.py = true) (k : PySem.W.keepIn K (.ref f) = true)
    (b : ∀ (kV doc pm : Value) (an : Option Addr) (cdv ct : Value) (us : List Value), us.length = r.ps.length → bindArgs (PySem.W.fnOf r.py r.py (defArgs (st r.ix)) (defBody (st r.ix)) (defScope (st r.ix)) .none kV doc pm an cdv ct) ⟨us, []⟩ = pure (r.ps.zip us)) (cn : r.cl = none := by rfl) (qn : r.qn = r.py := by rfl) (df : r.df = false := by rfl) : FnAt K mg st r :=
  ⟨cn, qn, df, f, kV, doc, pm, an, cdv, ct, fun_mk l c k, PySem.W.mg_of X G a, b⟩
theorem funR {fd : FuncData} {a : Addr} (F : Fun K r.py r.qn (st r.ix) a fd) (h : r.df = false) : FunR K st r a fd := by
  obtain ⟨⟨oc, od, kV, doc, pm, an, cdv, ct, osl, h1, h2, h3⟩, kp⟩ := F
  exact ⟨⟨oc, od, .none, kV, doc, pm, an, cdv, ct, osl, h1, h2, h3, .inl ⟨by simp [dfV, h], rfl⟩, .inl rfl⟩, kp⟩
theorem FnAt.fnin (F : FnAt K mg st r) : FnIn K mg st r := by
  obtain ⟨a, kV, doc, pm, an, cdv, ct, f, hm, b⟩ := F.ex
  have cn := F.cn
  have qn := F.qn
  have df := F.df
  refine ⟨a, _, funR (by rw [qn]; exact f) df, ⟨f.binds b, fun h => by rw [df] at h; cases h⟩, ?_⟩
  simp only [cn]
  exact hm
def GlAt (K : PySem.W.Frag) (mg : Str → Option Value) (x : Str) (v : PV) : Prop := ∃ u V, mg x = some u ∧ RelV V u ∧ ∀ (iw : Wd K) B μ H, Rep K B μ H v V
theorem gl_mk {x : Str} {u : Value} {v : PV} (X : K.In h) (G : h.Ns mainGlobals mg) (a : PySem.W.nsIn K mainGlobals x = some (some u)) (e : ∃ V, RelV V u ∧ ∀ (iw : Wd K) B μ H, Rep K B μ H v V) : GlAt K mg x v := by
  obtain ⟨V, r, q⟩ := e
  exact ⟨u, V, PySem.W.mg_of X G a, r, q⟩
theorem glv_int {i : Int} {u : Value} (e : ∃ t, u = .int i t) : ∃ V, RelV V u ∧ ∀ (iw : Wd K) B μ H, Rep K B μ H (.int i) V := ⟨.int i, e, fun _ _ _ _ => .int⟩
theorem glv_str {s : Str} {u : Value} (e : ∃ t, u = .str s t) (h1 : s.length ≤ big := by decide +kernel) (h2 : PyData.strOk s = true := by decide +kernel) : ∃ V, RelV V u ∧ ∀ (iw : Wd K) B μ H, Rep K B μ H (.str s) V := ⟨.str s, e, fun _ _ _ _ => Rep.str_iff.mpr ⟨rfl, h1, h2⟩⟩
theorem glv_tup2 {a : Addr} {od : Option Addr} {sl : Array (Option Value)} {t1 t2 : Tok} {n : Nat} {x y : Int} (l : K.lookup a = some ⟨.type "tuple", od, .seq #[.int x t1, .int y t2] n, sl⟩) : ∃ V, RelV V (.ref a) ∧ ∀ (iw : Wd K) B μ H, Rep K B μ H (.tup [.int x, .int y]) V :=
  ⟨.ref a, rfl, fun _ B μ H => Rep.tup_iff.mpr ⟨a, [.int x, .int y], rfl, .inr ⟨_, _, n, l, rfl, rfl, by show 2 ≤ sizeLine; rw [sizeLine_eq]; decide, .cons ⟨_, rfl⟩ (.cons ⟨_, rfl⟩ .nil)⟩, .cons .int (.cons .int .nil)⟩⟩
theorem blt_mk (X : K.In h) (G : h.Ns mainGlobals mg) (z0 : PySem.W.nsIn K mainGlobals "len" = some none) (z1 : PySem.W.nsIn K mainGlobals "abs" = some none) (z2 : PySem.W.nsIn K mainGlobals "max" = some none) (z3 : PySem.W.nsIn K mainGlobals "min" = some none)
    (z4 : PySem.W.nsIn K mainGlobals "sum" = some none) (z5 : PySem.W.nsIn K mainGlobals "any" = some none) (z6 : PySem.W.nsIn K mainGlobals "all" = some none) (z7 : PySem.W.nsIn K mainGlobals "int" = some none) (z8 : PySem.W.nsIn K mainGlobals "str" = some none)
    (z9 : PySem.W.nsIn K mainGlobals "list" = some none) (z10 : PySem.W.nsIn K mainGlobals "tuple" = some none) (z11 : PySem.W.nsIn K mainGlobals "sorted" = some none) (z12 : PySem.W.nsIn K mainGlobals "isinstance" = some none) (z13 : PySem.W.nsIn K mainGlobals "bool" = some none)
    (z14 : PySem.W.nsIn K mainGlobals "range" = some none) (z15 : PySem.W.nsIn K mainGlobals "enumerate" = some none) (z16 : PySem.W.nsIn K mainGlobals "zip" = some none) (z17 : PySem.W.nsIn K mainGlobals "reversed" = some none) (z18 : PySem.W.nsIn K mainGlobals "set" = some none) : ∀ x ∈ bltNames, mg x = none := by
  intro x hx
  simp only [bltNames, List.mem_cons, List.not_mem_nil, or_false] at hx
  have g : ∀ {y : Str}, PySem.W.nsIn K mainGlobals y = some none → mg y = none := fun z => PySem.W.mg_none_of X G z
  rcases hx with rfl | rfl | rfl | rfl | rfl | rfl | rfl | rfl | rfl | rfl | rfl | rfl | rfl | rfl | rfl | rfl | rfl | rfl | rfl
  · exact g z0
  · exact g z1
  · exact g z2
  · exact g z3
  · exact g z4
  · exact g z5
  · exact g z6
  · exact g z7
  · exact g z8
  · exact g z9
  · exact g z10
  · exact g z11
  · exact g z12
  · exact g z13
  · exact g z14
  · exact g z15
  · exact g z16
  · exact g z17
  · exact g z18
theorem FnAt.law_all {P : Program} {w : World} {T : List (String × Rc)} {gl : Gls} {cs : List (Str × List Str)} {mak : Mak} {ex : Exs} {XC : XCT} {fa : Addr} {k : Nat} {f : String} (F : FnAt K mg st r) (hck : tabOk st T gl cs mak ex = true) (hT : ∀ p ∈ T, FnIn K mg st p.2) (hgl : ∀ x v, gl x = some v → GlAt K mg x v) (hb : ∀ x ∈ bltNames, mg x = none) (hcl : ClIn K mg T cs mak) (hex : ExOk K mg (pgOf T gl cs mak ex) XC)
    {nm : Str} (hmg : mg nm = some (.ref fa)) (hn : r.py = nm) (hl : T.lookup f = some r) (hbind : ∀ {kV doc pm : Value} {an : Option Addr} {cdv ct : Value} (s : Shared) (v : Value), BindsTo s (PySem.W.fnOf r.py r.py (defArgs (st r.ix)) (defBody (st r.ix)) (defScope (st r.ix)) .none kV doc pm an cdv ct) ⟨[v], []⟩ [("script", v)])
    (hps : r.ps = [("script" : Str)] := by rfl) :
    ∃ fd : FuncData, (∀ (s : Shared) (v : Value), BindsTo s fd ⟨[v], []⟩ [("script", v)]) ∧ ∀ base : Heap, K.In base → base.Ns mainGlobals mg → FnOk P w K mg base (L2.CX P w) (k + 1) fa fd [("script" : Str)] (@spF K ⟨w⟩ XC (pgOf T gl cs mak ex) (k + 1) f) := by
  obtain ⟨a, kV, doc, pm, an, cdv, ct, fu, hm, b⟩ := F.ex
  subst hn
  rw [hmg] at hm
  cases hm
  have ck := List.all_eq_true.mp hck _ (mem_of_lookupS hl)
  simp only [Bool.and_eq_true] at ck
  have h0 : (pgOf T gl cs mak ex).fn f = some r.fd := by unfold pgOf; simp only [hl]; rfl
  refine ⟨PySem.W.fnOf r.py r.py (defArgs (st r.ix)) (defBody (st r.ix)) (defScope (st r.ix)) .none kV doc pm an cdv ct, fun s v => hbind s v, fun base _ _ => ?_⟩
  rw [← hps]
  have qn := F.qn
  obtain ⟨i1, i2⟩ := fns_ok (P := P) (w := w) (base := base) (XC := XC) hck hT hgl hb hcl hex k
  exact fn_step h0 (funR (by rw [qn]; exact fu) F.df) (scopeOk ck.1) ck.2 hgl hb i1 i2 (fun k' _ => (fns_ok (P := P) (w := w) (base := base) (XC := XC) hck hT hgl hb hcl hex k').1) hcl hex
/-- the classes of exceptions, by what the top has left -/
def XCX (K : PySem.W.Frag) (rs : List Str) : XCT := fun c cls d => c ∈ rs ∧ ∃ C, cls = .ref C ∧ d = none ∧ CA K c C
structure ExAt (K : PySem.W.Frag) (mg : Str → Option Value) (C : Addr) : Prop where
  ex : ∃ (B newId initId : String) (bmB : List Value), PySem.W.keepIn K (.ref C) = true ∧ PySem.W.excIn K C bmB newId = true ∧ ExcBaseFacts B newId initId bmB ∧ PySem.W.subIn K (.ref C) (.type "BaseException") = some true ∧ PySem.W.typeIn K (.ref C) = some (.type "type")
  ec : ExcC K C
structure ExIn (K : PySem.W.Frag) (mg : Str → Option Value) (ex : Exs) : Prop where
  r : ∀ c ∈ ex.rs, ∃ C, CA K c C ∧ mg c = some (.ref C) ∧ ExAt K mg C
  m : ∀ p ∈ ex.m, ∃ C v, CA K p.1 C ∧ mg p.2.1 = some v ∧ PySem.W.exmOne K (.ref C) v = some p.2.2
  t : ∀ p ∈ ex.t, ∃ C v u, CA K p.1 C ∧ ((mg p.2.1 = some u) ∨ (mg p.2.1 = none ∧ bootBuiltins p.2.1 = some u)) ∧ RelV v u ∧ (∀ u', RelV v u' → u' = u) ∧ PySem.W.kitOne K (.ref C) u = some p.2.2
theorem exLook_mem {l : List (Str × Str × Bool)} {c d : Str} {b : Bool} (h : exLook l c d = some b) : (c, d, b) ∈ l := by
  unfold exLook at h
  cases e : l.find? fun p => decide (p.1 = c ∧ p.2.1 = d) with
  | none => rw [e] at h; cases h
  | some p =>
    rw [e] at h
    have h1 := List.find?_some e
    have h2 := List.mem_of_find?_eq_some e
    simp only [decide_eq_true_eq] at h1
    obtain ⟨p1, p2, p3⟩ := p
    simp only [Option.map_some, Option.some.injEq] at h
    simp only at h1
    rw [← h1.1, ← h1.2, ← h]; exact h2
theorem ExIn.ok {ex : Exs} {T : List (String × Rc)} {gl : Gls} {cs : List (Str × List Str)} {mak : Mak} (h : ExIn K mg ex) (n1 : T.lookup "<" = none) (n2 : T.lookup "?" = none) (n3 : mak "<" = none) (n4 : mak "?" = none) : ExOk K mg (pgOf T gl cs mak ex) (XCX K ex.rs) where
  r := fun c hc => by
    obtain ⟨C, h0, h1, h2⟩ := h.r c hc
    obtain ⟨B, nI, iI, bmB, k1, k2, k3, k4, k5⟩ := h2.ex
    exact ⟨C, B, nI, iI, bmB, h1, k1, k2, k3, k4, k5, hc, C, rfl, rfl, h0⟩
  x := fun c cls d ⟨hc, C, e1, e2, e3⟩ => by
    obtain ⟨C', h0, h1, h2⟩ := h.r c hc
    obtain rfl := e3.uniq h0
    exact ⟨C, e1, e2, h2.ec⟩
  n := fun c cls d _ => ⟨by unfold pgOf; simp only [n1]; rfl, by unfold pgOf; simp only [n2]; rfl, n3, n4⟩
  m := fun c cls d hn b ⟨hc, C, e1, e2, e3⟩ hx => by
    obtain ⟨C', v, q1, q2, q3⟩ := h.m _ (exLook_mem (show exLook ex.m c hn = some b from hx))
    simp only at q1 q2 q3
    obtain rfl := e3.uniq q1
    exact ⟨v, q2, by rw [e1]; exact q3⟩
  t := fun c cls d hn b ⟨hc, C, e1, e2, e3⟩ hx => by
    obtain ⟨C', v, u, q1, q2, q3, q4, q5⟩ := h.t _ (exLook_mem (show exLook ex.t c hn = some b from hx))
    simp only at q1 q2 q5
    obtain rfl := e3.uniq q1
    exact ⟨v, u, q2, q3, q4, by rw [e1]; exact q5⟩
abbrev spX {K : PySem.W.Frag} (w : World) (rs : List Str) (pg : Pg) (k : Nat) (f : String) : Sp := @spF K ⟨w⟩ (XCX K rs) pg k f
theorem law_spX {K : PySem.W.Frag} (w : World) {rs : List Str} {pg : Pg} {k : Nat} {a : Addr} {ns : List Int} {H : Hp} {f : String} (hS : SqL K H a (ns.map V.int)) (hr : ∃ h', run pg k f [.lst (ns.map PV.int)] [] = .ok (.bl true, h')) :
    spX (K := K) w rs pg k f [.ref a] H (fun v _ => v = .bl true) (fun _ _ _ => False) := @law_sp K ⟨w⟩ _ _ _ _ _ _ _ hS hr
theorem hCX {P : Program} {w : World} {H : Hp} {s : Shared} {e : Value} {s' : Shared} (h : L2.CX P w [] H s (fun _ _ _ => False) e s') : False := by
  obtain ⟨_, _, _, _, _, _, _, _, _, _, _, _, z⟩ := h
  exact z.elim
end
end Rg

namespace D_k23
open PySem Rg
def b_law_cell_at : Ss := 
  (.cons (.iff (.cmp .Lt (.var 1) (.blt .len (.cons (.var 0) .nil))) 
    (.cons (.ret (.idx (.var 0) (.var 1))) <|
    .nil) 
    (.nil)) <|
  .cons (.ret (.kint 0)) <|
  .nil)
def b_law_name : Ss := 
  (.cons (.asg (.name 1) (.bin .Add (.kint 1) (.bin .Mod (.var 0) (.kint 8)))) <|
  .cons (.asg (.name 2) (.kstr "")) <|
  .cons (.whl 100000 (.cmp .Lt (.blt .len (.cons (.var 2) .nil)) (.var 1)) 
    (.cons (.asg (.name 2) (.bin .Add (.var 2) (.idx (.kstr "abcdefghijklmnopqrstuvwxyz") (.bin .Mod (.bin .FloorDiv (.var 0) (.kint 8)) (.kint 26))))) <|
    .cons (.asg (.name 0) (.bin .FloorDiv (.var 0) (.kint 3))) <|
    .nil)) <|
  .cons (.ret (.var 2)) <|
  .nil)
def b_law_slate : Ss := 
  (.cons (.asg (.name 1) (.tup .nil)) <|
  .cons (.iff (.cmp .Gt (.bin .Mod (.var 0) (.kint 3)) (.kint 0)) 
    (.cons (.asg (.name 1) (.tup (.cons (.tup (.cons (.callP "_law_name" (.cons (.bin .FloorDiv (.var 0) (.kint 3)) .nil)) (.cons (.bin .Add (.kint 1) (.bin .Mod (.var 0) (.bin .Pow (.kint 10) (.kint 30)))) .nil))) .nil))) <|
    .nil) 
    (.nil)) <|
  .cons (.asg (.name 2) (.tup (.cons (.bin .Mod (.bin .FloorDiv (.var 0) (.kint 7)) (.kint 6)) (.cons (.bin .Add (.kint 1) (.bin .Mod (.bin .FloorDiv (.var 0) (.kint 11)) (.kint 50))) (.cons (.bin .Mod (.var 0) (.bin .Pow (.kint 10) (.kint 9))) .nil))))) <|
  .cons (.asg (.name 3) (.tup (.cons (.bin .Mod (.bin .FloorDiv (.var 0) (.kint 13)) (.kint 20)) (.cons (.idx (.lst (.cons .non (.cons (.kint 0) (.cons (.kint 3) .nil)))) (.bin .Mod (.bin .FloorDiv (.var 0) (.kint 260)) (.kint 3))) .nil)))) <|
  .cons (.ret (.tup (.cons (.var 1) (.cons (.tup (.cons (.var 2) .nil)) (.cons (.var 3) (.cons (.idx (.lst (.cons .non (.cons (.kstr "over") (.cons (.tup (.cons (.tup (.cons (.kint 2) (.cons (.tup (.cons (.kint 0) (.cons (.kint 1) (.cons (.kint 4) .nil)))) .nil))) (.cons (.tup (.cons (.kint 2) (.cons (.tup (.cons (.kint 0) (.cons (.kint 1) (.cons (.kint 4) .nil)))) .nil))) .nil))) .nil)))) (.bin .Mod (.bin .FloorDiv (.var 0) (.kint 5)) (.kint 3))) .nil)))))) <|
  .nil)
def b_law_row : Ss := 
  (.cons (.asg (.name 2) (.tup (.cons (.bin .Add (.kint 1) (.bin .Mod (.var 1) (.bin .Pow (.kint 10) (.kint 20)))) (.cons (.bin .Mod (.bin .FloorDiv (.var 1) (.kint 3)) (.kint 6)) .nil)))) <|
  .cons (.asg (.name 3) (.bin .Mod (.bin .FloorDiv (.var 1) (.kint 18)) (.kint 3))) <|
  .cons (.iff (.cmp .Eq (.var 3) (.kint 0)) 
    (.cons (.ret (.tup (.cons (.var 0) (.cons (.var 2) (.cons (.tup (.cons (.kint 0) (.cons (.kint 0) .nil))) (.cons .non .nil)))))) <|
    .nil) 
    (.nil)) <|
  .cons (.iff (.cmp .Eq (.var 3) (.kint 1)) 
    (.cons (.ret (.tup (.cons (.var 0) (.cons (.var 2) (.cons (.var 2) (.cons (.callP "_law_slate" (.cons (.bin .FloorDiv (.var 1) (.kint 54)) .nil)) .nil)))))) <|
    .nil) 
    (.nil)) <|
  .cons (.ret (.tup (.cons (.var 0) (.cons (.var 2) (.cons (.tup (.cons (.bin .Add (.kint 1) (.bin .Mod (.bin .FloorDiv (.var 1) (.kint 54)) (.idx (.var 2) (.kint 0)))) (.cons (.kint 0) .nil))) (.cons (.callP "_law_slate" (.cons (.bin .FloorDiv (.var 1) (.kint 54)) .nil)) .nil)))))) <|
  .nil)
def b_law_book : Ss := 
  (.cons (.asg (.name 2) (.lstM .nil)) <|
  .cons (.asg (.name 3) (.bin .Mod (.callP "_law_cell_at" (.cons (.var 0) (.cons (.var 1) .nil))) (.kint 3))) <|
  .cons (.forr (.name 4) (.rng1 (.bin .Mod (.bin .FloorDiv (.callP "_law_cell_at" (.cons (.var 0) (.cons (.var 1) .nil))) (.kint 3)) (.kint 4))) 
    (.cons (.expr (.mth .append (.var 2) (.cons (.callP "_law_row" (.cons (.var 3) (.cons (.callP "_law_cell_at" (.cons (.var 0) (.cons (.bin .Add (.bin .Add (.var 1) (.kint 1)) (.var 4)) .nil))) .nil))) .nil))) <|
    .cons (.asg (.name 3) (.bin .Add (.bin .Add (.var 3) (.kint 1)) (.bin .Mod (.callP "_law_cell_at" (.cons (.var 0) (.cons (.bin .Add (.bin .Add (.var 1) (.kint 1)) (.var 4)) .nil))) (.kint 3)))) <|
    .nil)) <|
  .cons (.ret (.blt .tuple (.cons (.var 2) .nil))) <|
  .nil)
def b_law_near : Ss := 
  (.cons (.asg (.name 2) (.bin .Mod (.var 1) (.kint 5))) <|
  .cons (.iff (.and (.cons (.cmp .Eq (.var 2) (.kint 0)) (.cons (.cmp .Gt (.idx (.var 0) (.kint 0)) (.kint 0)) .nil))) 
    (.cons (.ret (.var 0)) <|
    .nil) 
    (.nil)) <|
  .cons (.iff (.cmp .Eq (.var 2) (.kint 1)) 
    (.cons (.ret (.tup (.cons (.bin .Add (.idx (.var 0) (.kint 0)) (.kint 1)) (.cons (.bin .Mod (.bin .FloorDiv (.var 1) (.kint 5)) (.kint 6)) .nil)))) <|
    .nil) 
    (.nil)) <|
  .cons (.iff (.cmp .Eq (.var 2) (.kint 2)) 
    (.cons (.ret (.tup (.cons (.blt .max2 (.cons (.kint 1) (.cons (.bin .Sub (.idx (.var 0) (.kint 0)) (.kint 1)) .nil))) (.cons (.bin .Mod (.bin .FloorDiv (.var 1) (.kint 5)) (.kint 6)) .nil)))) <|
    .nil) 
    (.nil)) <|
  .cons (.iff (.cmp .Eq (.var 2) (.kint 3)) 
    (.cons (.ret (.tup (.cons (.blt .max2 (.cons (.kint 1) (.cons (.idx (.var 0) (.kint 0)) .nil))) (.cons (.bin .Mod (.bin .FloorDiv (.var 1) (.kint 5)) (.kint 6)) .nil)))) <|
    .nil) 
    (.nil)) <|
  .cons (.ret (.tup (.cons (.bin .Add (.kint 1) (.bin .Mod (.bin .FloorDiv (.var 1) (.kint 5)) (.bin .Pow (.kint 10) (.kint 20)))) (.cons (.bin .Mod (.bin .FloorDiv (.var 1) (.kint 7)) (.kint 6)) .nil)))) <|
  .nil)
def b_law_load : Ss := 
  (.cons (.asg (.name 1) (.idx (.lst (.cons .non (.cons (.tup (.cons (.kstr "add") (.cons (.callP "_law_name" (.cons (.bin .FloorDiv (.var 0) (.kint 3)) .nil)) (.cons (.bin .Sub (.bin .Mod (.bin .FloorDiv (.var 0) (.kint 5)) (.bin .Pow (.kint 10) (.kint 20))) (.bin .Pow (.kint 10) (.kint 19))) .nil)))) (.cons (.tup (.cons (.kstr "end") .nil)) .nil)))) (.bin .Mod (.var 0) (.kint 3)))) <|
  .cons (.ret (.tup (.cons (.tup (.cons (.bin .Mod (.bin .FloorDiv (.var 0) (.kint 7)) (.kint 2)) (.cons (.kint 0) .nil))) (.cons (.bin .Add (.kint 1) (.bin .Mod (.bin .FloorDiv (.var 0) (.kint 11)) (.kint 60))) (.cons (.var 1) (.cons (.callP "_law_slate" (.cons (.bin .FloorDiv (.var 0) (.kint 13)) .nil)) .nil)))))) <|
  .nil)
def b_page_of : Ss := 
  (.cons (.forr (.name 2) (.seq (.var 0)) 
    (.cons (.iff (.cmp .Eq (.idx (.var 2) (.kint 0)) (.var 1)) 
      (.cons (.ret (.tup (.cons (.idx (.var 2) (.kint 1)) (.cons (.idx (.var 2) (.kint 2)) (.cons (.idx (.var 2) (.kint 3)) .nil))))) <|
      .nil) 
      (.nil)) <|
    .nil)) <|
  .cons (.ret (.tup (.cons (.glb "NOUGHT") (.cons (.glb "NOUGHT") (.cons .non .nil))))) <|
  .nil)
def b_answer_to : Ss := 
  (.cons (.ret (.tup (.cons (.var 1) (.cons (.idx (.var 0) (.kint 2)) (.cons (.idx (.var 0) (.kint 1)) (.cons (.idx (.var 0) (.kint 3)) (.cons (.idx (.var 0) (.kint 4)) (.cons (.var 2) .nil)))))))) <|
  .nil)
def b_with_page : Ss := 
  (.cons (.asg (.name 5) (.comp false (.var 7) (.name 7) (.seq (.var 0)) (.cons (.cmp .Lt (.idx (.var 7) (.kint 0)) (.var 1)) .nil) [("row", 7)])) <|
  .cons (.asg (.name 6) (.comp false (.var 7) (.name 7) (.seq (.var 0)) (.cons (.cmp .Gt (.idx (.var 7) (.kint 0)) (.var 1)) .nil) [("row", 7)])) <|
  .cons (.ret (.blt .tuple (.cons (.bin .Add (.bin .Add (.var 5) (.lst (.cons (.tup (.cons (.var 1) (.cons (.var 2) (.cons (.var 3) (.cons (.var 4) .nil))))) .nil))) (.var 6)) .nil))) <|
  .nil)
def b_heard : Ss := 
  (.cons (.asg (.name 2) (.idx (.var 1) (.kint 3))) <|
  .cons (.asg (.name 3) (.idx (.var 1) (.kint 4))) <|
  .cons (.asg (.tup3 (.name 4) (.name 5) (.name 6)) (.callP "page_of" (.cons (.var 0) (.cons (.var 2) .nil)))) <|
  .cons (.iff (.and (.cons (.cmp .Eq (.idx (.var 1) (.kint 0)) (.kstr "ask")) (.cons (.cmp .Gt (.var 3) (.var 4)) .nil))) 
    (.cons (.ret (.tup (.cons (.callP "with_page" (.cons (.var 0) (.cons (.var 2) (.cons (.var 3) (.cons (.var 5) (.cons (.var 6) .nil)))))) (.cons (.callP "answer_to" (.cons (.var 1) (.cons (.kstr "grant") (.cons (.tup (.cons (.var 5) (.cons (.var 6) .nil))) .nil)))) .nil)))) <|
    .nil) 
    (.nil)) <|
  .cons (.iff (.and (.cons (.cmp .Eq (.idx (.var 1) (.kint 0)) (.kstr "tell")) (.cons (.cmp .GtE (.var 3) (.var 4)) .nil))) 
    (.cons (.ret (.tup (.cons (.callP "with_page" (.cons (.var 0) (.cons (.var 2) (.cons (.var 3) (.cons (.var 3) (.cons (.idx (.idx (.var 1) (.kint 5)) (.kint 3)) .nil)))))) (.cons (.callP "answer_to" (.cons (.var 1) (.cons (.kstr "kept") (.cons (.tup .nil) .nil)))) .nil)))) <|
    .nil) 
    (.nil)) <|
  .cons (.ret (.tup (.cons (.var 0) (.cons (.callP "answer_to" (.cons (.var 1) (.cons (.kstr "late") (.cons (.tup (.cons (.var 4) .nil)) .nil)))) .nil)))) <|
  .nil)
def b_law_alike : Ss := 
  (.cons (.iff (.cmp .Is (.var 1) .non) 
    (.cons (.ret (.cmp .Is (.var 0) .non)) <|
    .nil) 
    (.nil)) <|
  .cons (.iff (.isi (.var 1) .bool) 
    (.cons (.ret (.and (.cons (.isi (.var 0) .bool) (.cons (.cmp .Eq (.var 0) (.var 1)) .nil)))) <|
    .nil) 
    (.nil)) <|
  .cons (.iff (.isi (.var 1) .int) 
    (.cons (.ret (.and (.cons (.isi (.var 0) .int) (.cons (.not (.isi (.var 0) .bool)) (.cons (.cmp .Eq (.var 0) (.var 1)) .nil))))) <|
    .nil) 
    (.nil)) <|
  .cons (.iff (.isi (.var 1) .str) 
    (.cons (.ret (.and (.cons (.isi (.var 0) .str) (.cons (.cmp .Eq (.var 0) (.var 1)) .nil)))) <|
    .nil) 
    (.nil)) <|
  .cons (.iff (.and (.cons (.isi (.var 1) .tuple) (.cons (.not (.isi (.var 0) .tuple)) .nil))) 
    (.cons (.ret (.kbl false)) <|
    .nil) 
    (.nil)) <|
  .cons (.iff (.and (.cons (.isi (.var 1) .list) (.cons (.not (.isi (.var 0) .list)) .nil))) 
    (.cons (.ret (.kbl false)) <|
    .nil) 
    (.nil)) <|
  .cons (.iff (.cmp .NotEq (.blt .len (.cons (.var 0) .nil)) (.blt .len (.cons (.var 1) .nil))) 
    (.cons (.ret (.kbl false)) <|
    .nil) 
    (.nil)) <|
  .cons (.forr (.name 2) (.rng1 (.blt .len (.cons (.var 1) .nil))) 
    (.cons (.iff (.not (.callP "_law_alike" (.cons (.idx (.var 0) (.var 2)) (.cons (.idx (.var 1) (.var 2)) .nil)))) 
      (.cons (.ret (.kbl false)) <|
      .nil) 
      (.nil)) <|
    .nil)) <|
  .cons (.ret (.kbl true)) <|
  .nil)
def b_law_epoch : Ss := 
  (.cons (.ret (.idx (.var 0) (.kint 0))) <|
  .nil)
def b_law : Ss := 
  (.cons (.asg (.name 1) (.callP "_law_book" (.cons (.var 0) (.cons (.kint 2) .nil)))) <|
  .cons (.asg (.name 2) (.bin .Mod (.bin .FloorDiv (.callP "_law_cell_at" (.cons (.var 0) (.cons (.kint 0) .nil))) (.kint 7)) (.kint 12))) <|
  .cons (.iff (.and (.cons (.cmp .Gt (.blt .len (.cons (.var 1) .nil)) (.kint 0)) (.cons (.cmp .Gt (.bin .Mod (.callP "_law_cell_at" (.cons (.var 0) (.cons (.kint 0) .nil))) (.kint 7)) (.kint 1)) .nil))) 
    (.cons (.asg (.name 2) (.idx (.idx (.var 1) (.bin .Mod (.bin .FloorDiv (.callP "_law_cell_at" (.cons (.var 0) (.cons (.kint 0) .nil))) (.kint 7)) (.blt .len (.cons (.var 1) .nil)))) (.kint 0))) <|
    .nil) 
    (.nil)) <|
  .cons (.asg (.name 3) (.tup (.cons (.var 2) (.cons (.tup (.cons (.kint 0) (.cons (.kint 0) .nil))) (.cons (.tup (.cons (.kint 0) (.cons (.kint 0) .nil))) (.cons .non .nil)))))) <|
  .cons (.forr (.name 4) (.seq (.var 1)) 
    (.cons (.iff (.cmp .Eq (.idx (.var 4) (.kint 0)) (.var 2)) 
      (.cons (.asg (.name 3) (.var 4)) <|
      .nil) 
      (.nil)) <|
    .nil)) <|
  .cons (.asg (.name 5) (.callP "_law_near" (.cons (.idx (.var 3) (.kint 1)) (.cons (.bin .Mod (.callP "_law_cell_at" (.cons (.var 0) (.cons (.kint 1) .nil))) (.bin .Pow (.kint 10) (.kint 40))) .nil)))) <|
  .cons (.asg (.name 6) (.bin .Mod (.callP "_law_cell_at" (.cons (.var 0) (.cons (.kint 6) .nil))) (.kint 6))) <|
  .cons (.asg (.name 7) (.callP "_law_load" (.cons (.bin .Mod (.callP "_law_cell_at" (.cons (.var 0) (.cons (.kint 7) .nil))) (.bin .Pow (.kint 10) (.kint 40))) .nil))) <|
  .cons (.iff (.cmp .Eq (.var 5) (.idx (.var 3) (.kint 2))) 
    (.cons (.asg (.name 7) (.bin .Add (.slc (.var 7) .no (.yes (.kint 3))) (.tup (.cons (.idx (.var 3) (.kint 3)) .nil)))) <|
    .nil) 
    (.nil)) <|
  .cons (.asg (.name 8) (.callP "heard" (.cons (.var 1) (.cons (.tup (.cons (.kstr "tell") (.cons (.idx (.var 5) (.kint 1)) (.cons (.var 6) (.cons (.var 2) (.cons (.var 5) (.cons (.var 7) .nil))))))) .nil)))) <|
  .cons (.asg (.name 9) (.comp true (.var 4) (.name 4) (.seq (.var 1)) (.cons (.cmp .NotEq (.idx (.var 4) (.kint 0)) (.var 2)) .nil) [("row", 4)])) <|
  .cons (.iff (.cmp .GtE (.var 5) (.idx (.var 3) (.kint 1))) 
    (.cons (.expr (.mth .append (.var 9) (.cons (.tup (.cons (.var 2) (.cons (.var 5) (.cons (.var 5) (.cons (.idx (.var 7) (.kint 3)) .nil))))) .nil))) <|
    .cons (.asg (.name 10) (.tup (.cons (.kstr "kept") (.cons (.var 6) (.cons (.idx (.var 5) (.kint 1)) (.cons (.var 2) (.cons (.var 5) (.cons (.tup .nil) .nil)))))))) <|
    .nil) 
    (.cons (.expr (.mth .append (.var 9) (.cons (.var 3) .nil))) <|
    .cons (.asg (.name 10) (.tup (.cons (.kstr "late") (.cons (.var 6) (.cons (.idx (.var 5) (.kint 1)) (.cons (.var 2) (.cons (.var 5) (.cons (.tup (.cons (.idx (.var 3) (.kint 1)) .nil)) .nil)))))))) <|
    .nil)) <|
  .cons (.asg (.name 9) (.srtK (.var 9) "key _law_epoch")) <|
  .cons (.ret (.callP "_law_alike" (.cons (.var 8) (.cons (.tup (.cons (.blt .tuple (.cons (.var 9) .nil)) (.cons (.var 10) .nil))) .nil)))) <|
  .nil)
def T : List (String × Rc) := [
  ("_law_cell_at", ⟨"_law_cell_at", 8, ["script", "k"], ["script", "k"], b_law_cell_at, "_law_cell_at", none, false⟩),
  ("_law_name", ⟨"_law_name", 10, ["cell", "size", "name"], ["cell"], b_law_name, "_law_name", none, false⟩),
  ("_law_slate", ⟨"_law_slate", 11, ["cell", "cells", "doing", "lease"], ["cell"], b_law_slate, "_law_slate", none, false⟩),
  ("_law_row", ⟨"_law_row", 13, ["epoch", "cell", "promised", "way"], ["epoch", "cell"], b_law_row, "_law_row", none, false⟩),
  ("_law_book", ⟨"_law_book", 14, ["script", "k", "rows", "epoch", "j"], ["script", "k"], b_law_book, "_law_book", none, false⟩),
  ("_law_near", ⟨"_law_near", 12, ["stamp", "cell", "way"], ["stamp", "cell"], b_law_near, "_law_near", none, false⟩),
  ("_law_load", ⟨"_law_load", 16, ["cell", "deed"], ["cell"], b_law_load, "_law_load", none, false⟩),
  ("page_of", ⟨"page_of", 4, ["book", "epoch", "row"], ["book", "epoch"], b_page_of, "page_of", none, false⟩),
  ("answer_to", ⟨"answer_to", 1, ["letter", "word", "load"], ["letter", "word", "load"], b_answer_to, "answer_to", none, false⟩),
  ("with_page", ⟨"with_page", 5, ["book", "epoch", "promised", "kept", "slate", "before", "behind", "row"], ["book", "epoch", "promised", "kept", "slate"], b_with_page, "with_page", none, false⟩),
  ("heard", ⟨"heard", 6, ["book", "letter", "epoch", "stamp", "promised", "kept", "slate"], ["book", "letter"], b_heard, "heard", none, false⟩),
  ("_law_alike", ⟨"_law_alike", 9, ["found", "due", "k"], ["found", "due"], b_law_alike, "_law_alike", none, false⟩),
  ("_law_epoch", ⟨"_law_epoch", 15, ["row"], ["row"], b_law_epoch, "_law_epoch", none, false⟩),
  ("law", ⟨"law", 17, ["script", "book", "epoch", "old", "row", "stamp", "keeper", "load", "found", "rows", "due"], ["script"], b_law, "law", none, false⟩)]
def cs : List (Str × List Str) := []
def mak : Mak := fun f => none
def gl : Gls := fun x => if x = "NOUGHT" then some (.tup [(.int 0), (.int 0)]) else none
def ex : Exs := ⟨[], [], [], [("key _law_epoch", "_law_epoch")]⟩
def pg : Pg := pgOf T gl cs mak ex
end D_k23

namespace E_k23
open PySem PySem.Spec PyProof.Rows L2 Rg
def topS (i : Nat) : Stmt := if i < 1000 then PySem.Challenge.pw_oneslate_k23_a_tell_heard.main.body.getD i (.Pass ⟨0, 0, 0, 0⟩) else match PySem.Challenge.pw_oneslate_k23_a_tell_heard.main.body.getD (i % 1000) (.Pass ⟨0, 0, 0, 0⟩) with | .ClassDef (body := b) .. => b.getD (i / 1000 - 1) (.Pass ⟨0, 0, 0, 0⟩) | s => s
def chk (p : String × Rc) : Bool := C8.scC p.2.N p.2.ps (defScope (topS p.2.ix)) && ckSs (pgOf D_k23.T D_k23.gl D_k23.cs D_k23.mak D_k23.ex) p.2.N (defScope (topS p.2.ix)) p.2.body (defBody (topS p.2.ix))
def ckAt (i : Nat) : Bool := match D_k23.T[i]? with | some p => chk p | none => true
theorem ck_0 : ckAt 0 = true := by decide +kernel
theorem ck_1 : ckAt 1 = true := by decide +kernel
theorem ck_2 : ckAt 2 = true := by decide +kernel
theorem ck_3 : ckAt 3 = true := by decide +kernel
theorem ck_4 : ckAt 4 = true := by decide +kernel
theorem ck_5 : ckAt 5 = true := by decide +kernel
theorem ck_6 : ckAt 6 = true := by decide +kernel
theorem ck_7 : ckAt 7 = true := by decide +kernel
theorem ck_8 : ckAt 8 = true := by decide +kernel
theorem ck_9 : ckAt 9 = true := by decide +kernel
theorem ck_10 : ckAt 10 = true := by decide +kernel
theorem ck_11 : ckAt 11 = true := by decide +kernel
theorem ck_12 : ckAt 12 = true := by decide +kernel
theorem ck_13 : ckAt 13 = true := by decide +kernel
theorem ckStep (i : Nat) (h : ckAt i = true) (t : (D_k23.T.drop (i + 1)).all chk = true) : (D_k23.T.drop i).all chk = true := by
  unfold ckAt at h
  cases e : D_k23.T[i]? with
  | none => rw [List.drop_of_length_le (List.getElem?_eq_none_iff.mp e)]; rfl
  | some p =>
    obtain ⟨hi, hp⟩ := List.getElem?_eq_some_iff.mp e
    rw [e] at h
    have h2 : chk p = true := h
    rw [List.drop_eq_getElem_cons hi, List.all_cons, t, hp, h2]; rfl
theorem ckD_13 : (D_k23.T.drop 13).all chk = true := ckStep 13 ck_13 (show (D_k23.T.drop 14).all chk = true from rfl)
theorem ckD_12 : (D_k23.T.drop 12).all chk = true := ckStep 12 ck_12 ckD_13
theorem ckD_11 : (D_k23.T.drop 11).all chk = true := ckStep 11 ck_11 ckD_12
theorem ckD_10 : (D_k23.T.drop 10).all chk = true := ckStep 10 ck_10 ckD_11
theorem ckD_9 : (D_k23.T.drop 9).all chk = true := ckStep 9 ck_9 ckD_10
theorem ckD_8 : (D_k23.T.drop 8).all chk = true := ckStep 8 ck_8 ckD_9
theorem ckD_7 : (D_k23.T.drop 7).all chk = true := ckStep 7 ck_7 ckD_8
theorem ckD_6 : (D_k23.T.drop 6).all chk = true := ckStep 6 ck_6 ckD_7
theorem ckD_5 : (D_k23.T.drop 5).all chk = true := ckStep 5 ck_5 ckD_6
theorem ckD_4 : (D_k23.T.drop 4).all chk = true := ckStep 4 ck_4 ckD_5
theorem ckD_3 : (D_k23.T.drop 3).all chk = true := ckStep 3 ck_3 ckD_4
theorem ckD_2 : (D_k23.T.drop 2).all chk = true := ckStep 2 ck_2 ckD_3
theorem ckD_1 : (D_k23.T.drop 1).all chk = true := ckStep 1 ck_1 ckD_2
theorem ckD_0 : (D_k23.T.drop 0).all chk = true := ckStep 0 ck_0 ckD_1
theorem ck : tabOk topS D_k23.T D_k23.gl D_k23.cs D_k23.mak D_k23.ex = true := ckD_0
abbrev Main : Prop := ∀ (ns : List Int) (hl : ns.length ≤ 63) (hb : ∀ z ∈ ns, Builtin.Int.intBits z ≤ 1048576), ∃ h', run D_k23.pg 101 "law" [.lst (ns.map PV.int)] [] = .ok (.bl true, h')
end E_k23
section
open PySem PySem.W PyProof.Rows
set_option maxHeartbeats 0 in
theorem E_k23.early (HH : E_k23.Main) : PySem.Challenge.rw_oneslate_k23_a_tell_heard.Holds := by
  refine' @And.right _ _ ⟨?hc, ?main⟩
  case main =>
    w_on; o_law; k_head; (case hw => w_witness2)
  k_fill
  refine L2.walk_ofB (l := PySem.Challenge.rw_oneslate_k23_a_tell_heard) (n := 63) (k := 101) (x := "script") (CX := fun w => L2.CX PySem.Challenge.rw_oneslate_k23_a_tell_heard.prog w) (sp := fun w => Rg.spX w D_k23.ex.rs D_k23.pg 101 "law") rfl (by decide) rfl ⟨rfl, by decide, by decide⟩ (fun w h Y => PySem.W.kIn_of Y) ?F (fun w H a ns hl hb _ hS => Rg.law_spX w hS (HH ns hl hb)) (fun w H s e s' h => Rg.hCX h)
  case F =>
    intro w mg fa h KX G hmg
    refine' Rg.have1 (Rg.fnat_mk (st := E_k23.topS) (r := ⟨"_law_cell_at", 8, ["script", "k"], ["script", "k"], D_k23.b_law_cell_at, "_law_cell_at", none, false⟩) KX G ?a1 ?l1 ?c1 ?k1 ?b1) ?rest1
    (case a1 => k_is); (case l1 => k_is); (case c1 => k_is); (case k1 => k_is)
    (case b1 => exact fun _ _ _ _ _ _ us hl => match us, hl with | [_, _], _ => rfl)
    intro F1
    refine' Rg.have1 (Rg.fnat_mk (st := E_k23.topS) (r := ⟨"_law_name", 10, ["cell", "size", "name"], ["cell"], D_k23.b_law_name, "_law_name", none, false⟩) KX G ?a2 ?l2 ?c2 ?k2 ?b2) ?rest2
    (case a2 => k_is); (case l2 => k_is); (case c2 => k_is); (case k2 => k_is)
    (case b2 => exact fun _ _ _ _ _ _ us hl => match us, hl with | [_], _ => rfl)
    intro F2
    refine' Rg.have1 (Rg.fnat_mk (st := E_k23.topS) (r := ⟨"_law_slate", 11, ["cell", "cells", "doing", "lease"], ["cell"], D_k23.b_law_slate, "_law_slate", none, false⟩) KX G ?a3 ?l3 ?c3 ?k3 ?b3) ?rest3
    (case a3 => k_is); (case l3 => k_is); (case c3 => k_is); (case k3 => k_is)
    (case b3 => exact fun _ _ _ _ _ _ us hl => match us, hl with | [_], _ => rfl)
    intro F3
    refine' Rg.have1 (Rg.fnat_mk (st := E_k23.topS) (r := ⟨"_law_row", 13, ["epoch", "cell", "promised", "way"], ["epoch", "cell"], D_k23.b_law_row, "_law_row", none, false⟩) KX G ?a4 ?l4 ?c4 ?k4 ?b4) ?rest4
    (case a4 => k_is); (case l4 => k_is); (case c4 => k_is); (case k4 => k_is)
    (case b4 => exact fun _ _ _ _ _ _ us hl => match us, hl with | [_, _], _ => rfl)
    intro F4
    refine' Rg.have1 (Rg.fnat_mk (st := E_k23.topS) (r := ⟨"_law_book", 14, ["script", "k", "rows", "epoch", "j"], ["script", "k"], D_k23.b_law_book, "_law_book", none, false⟩) KX G ?a5 ?l5 ?c5 ?k5 ?b5) ?rest5
    (case a5 => k_is); (case l5 => k_is); (case c5 => k_is); (case k5 => k_is)
    (case b5 => exact fun _ _ _ _ _ _ us hl => match us, hl with | [_, _], _ => rfl)
    intro F5
    refine' Rg.have1 (Rg.fnat_mk (st := E_k23.topS) (r := ⟨"_law_near", 12, ["stamp", "cell", "way"], ["stamp", "cell"], D_k23.b_law_near, "_law_near", none, false⟩) KX G ?a6 ?l6 ?c6 ?k6 ?b6) ?rest6
    (case a6 => k_is); (case l6 => k_is); (case c6 => k_is); (case k6 => k_is)
    (case b6 => exact fun _ _ _ _ _ _ us hl => match us, hl with | [_, _], _ => rfl)
    intro F6
    refine' Rg.have1 (Rg.fnat_mk (st := E_k23.topS) (r := ⟨"_law_load", 16, ["cell", "deed"], ["cell"], D_k23.b_law_load, "_law_load", none, false⟩) KX G ?a7 ?l7 ?c7 ?k7 ?b7) ?rest7
    (case a7 => k_is); (case l7 => k_is); (case c7 => k_is); (case k7 => k_is)
    (case b7 => exact fun _ _ _ _ _ _ us hl => match us, hl with | [_], _ => rfl)
    intro F7
    refine' Rg.have1 (Rg.fnat_mk (st := E_k23.topS) (r := ⟨"page_of", 4, ["book", "epoch", "row"], ["book", "epoch"], D_k23.b_page_of, "page_of", none, false⟩) KX G ?a8 ?l8 ?c8 ?k8 ?b8) ?rest8
    (case a8 => k_is); (case l8 => k_is); (case c8 => k_is); (case k8 => k_is)
    (case b8 => exact fun _ _ _ _ _ _ us hl => match us, hl with | [_, _], _ => rfl)
    intro F8
    refine' Rg.have1 (Rg.fnat_mk (st := E_k23.topS) (r := ⟨"answer_to", 1, ["letter", "word", "load"], ["letter", "word", "load"], D_k23.b_answer_to, "answer_to", none, false⟩) KX G ?a9 ?l9 ?c9 ?k9 ?b9) ?rest9
    (case a9 => k_is); (case l9 => k_is); (case c9 => k_is); (case k9 => k_is)
    (case b9 => exact fun _ _ _ _ _ _ us hl => match us, hl with | [_, _, _], _ => rfl)
    intro F9
    refine' Rg.have1 (Rg.fnat_mk (st := E_k23.topS) (r := ⟨"with_page", 5, ["book", "epoch", "promised", "kept", "slate", "before", "behind", "row"], ["book", "epoch", "promised", "kept", "slate"], D_k23.b_with_page, "with_page", none, false⟩) KX G ?a10 ?l10 ?c10 ?k10 ?b10) ?rest10
    (case a10 => k_is); (case l10 => k_is); (case c10 => k_is); (case k10 => k_is)
    (case b10 => exact fun _ _ _ _ _ _ us hl => match us, hl with | [_, _, _, _, _], _ => rfl)
    intro F10
    refine' Rg.have1 (Rg.fnat_mk (st := E_k23.topS) (r := ⟨"heard", 6, ["book", "letter", "epoch", "stamp", "promised", "kept", "slate"], ["book", "letter"], D_k23.b_heard, "heard", none, false⟩) KX G ?a11 ?l11 ?c11 ?k11 ?b11) ?rest11
    (case a11 => k_is); (case l11 => k_is); (case c11 => k_is); (case k11 => k_is)
    (case b11 => exact fun _ _ _ _ _ _ us hl => match us, hl with | [_, _], _ => rfl)
    intro F11
    refine' Rg.have1 (Rg.fnat_mk (st := E_k23.topS) (r := ⟨"_law_alike", 9, ["found", "due", "k"], ["found", "due"], D_k23.b_law_alike, "_law_alike", none, false⟩) KX G ?a12 ?l12 ?c12 ?k12 ?b12) ?rest12
    (case a12 => k_is); (case l12 => k_is); (case c12 => k_is); (case k12 => k_is)
    (case b12 => exact fun _ _ _ _ _ _ us hl => match us, hl with | [_, _], _ => rfl)
    intro F12
    refine' Rg.have1 (Rg.fnat_mk (st := E_k23.topS) (r := ⟨"_law_epoch", 15, ["row"], ["row"], D_k23.b_law_epoch, "_law_epoch", none, false⟩) KX G ?a13 ?l13 ?c13 ?k13 ?b13) ?rest13
    (case a13 => k_is); (case l13 => k_is); (case c13 => k_is); (case k13 => k_is)
    (case b13 => exact fun _ _ _ _ _ _ us hl => match us, hl with | [_], _ => rfl)
    intro F13
    refine' Rg.have1 (Rg.fnat_mk (st := E_k23.topS) (r := ⟨"law", 17, ["script", "book", "epoch", "old", "row", "stamp", "keeper", "load", "found", "rows", "due"], ["script"], D_k23.b_law, "law", none, false⟩) KX G ?a14 ?l14 ?c14 ?k14 ?b14) ?rest14
    (case a14 => k_is); (case l14 => k_is); (case c14 => k_is); (case k14 => k_is)
    (case b14 => exact fun _ _ _ _ _ _ us hl => match us, hl with | [_], _ => rfl)
    intro F14
    refine' Rg.have1 (Rg.blt_mk KX G ?z0 ?z1 ?z2 ?z3 ?z4 ?z5 ?z6 ?z7 ?z8 ?z9 ?z10 ?z11 ?z12 ?z13 ?z14 ?z15 ?z16 ?z17 ?z18) ?restB
    (case z0 => k_is)
    (case z1 => k_is)
    (case z2 => k_is)
    (case z3 => k_is)
    (case z4 => k_is)
    (case z5 => k_is)
    (case z6 => k_is)
    (case z7 => k_is)
    (case z8 => k_is)
    (case z9 => k_is)
    (case z10 => k_is)
    (case z11 => k_is)
    (case z12 => k_is)
    (case z13 => k_is)
    (case z14 => k_is)
    (case z15 => k_is)
    (case z16 => k_is)
    (case z17 => k_is)
    (case z18 => k_is)
    intro B
    refine' Rg.have1 (Rg.gl_mk (x := "NOUGHT") (v := (.tup [(.int 0), (.int 0)])) KX G ?ca0 ?cr0) ?restC0
    (case ca0 => k_is)
    (case cr0 => first | exact Rg.glv_int ⟨_, rfl⟩ | exact Rg.glv_str ⟨_, rfl⟩ | exact Rg.glv_tup2 (by k_is))
    intro C0
    refine' F14.law_all (T := D_k23.T) (gl := D_k23.gl) (cs := D_k23.cs) (mak := D_k23.mak) (ex := D_k23.ex) E_k23.ck ?TT ?GL B ?CL ?EX hmg rfl (f := "law") rfl (fun s v => .of_eq rfl)
    case TT =>
      intro p hp
      unfold D_k23.T at hp
      simp only [List.mem_cons, List.not_mem_nil, or_false] at hp
      rcases hp with rfl | rfl | rfl | rfl | rfl | rfl | rfl | rfl | rfl | rfl | rfl | rfl | rfl | rfl
      · exact F1.fnin
      · exact F2.fnin
      · exact F3.fnin
      · exact F4.fnin
      · exact F5.fnin
      · exact F6.fnin
      · exact F7.fnin
      · exact F8.fnin
      · exact F9.fnin
      · exact F10.fnin
      · exact F11.fnin
      · exact F12.fnin
      · exact F13.fnin
      · exact F14.fnin
    case CL =>
      exact Rg.ClIn.none
    case EX =>
      refine Rg.ExIn.ok ⟨fun c h => ?_, fun p h => ?_, fun p h => ?_⟩ rfl rfl rfl rfl
      · simp [D_k23.ex] at h
      · simp [D_k23.ex] at h
      · simp [D_k23.ex] at h
    case GL =>
      intro x v e
      unfold D_k23.gl at e
      split at e
      · rename_i ex; cases e; subst ex; exact C0
      cases e
end
namespace Rg
open PySem
section
variable {cal : Cal} {gl : Gls} {ρ : Slts} {h : MH}
@[simp] theorem exF_ok {α : Type} (a : α) (f : α → R (Fl × Slts × MH)) : exF ρ (.ok a) f = f a := rfl
@[simp] theorem noEx_okk {α : Type} (a : α) : noEx (.ok a : R α) = .ok a := rfl
@[simp] theorem evS_asg {t : Tg} {e : E} : evS cal gl (.asg t e) ρ h = exF ρ (evE cal gl e ρ h) fun x => bnd (bindT t x.1 ρ) fun ρ' => .ok (.nx, ρ', x.2) := by simp only [evS] <;> rfl
@[simp] theorem evS_aug {i : Nat} {e : E} : evS cal gl (.aug i e) ρ h = match ρ[i]? with
    | some (some v) => exF ρ (evE cal gl e ρ h) fun x => match v, x.1 with | .int a, .int b => .ok (.nx, ρ.set i (some (.int (a + b))), x.2) | _, _ => stk
    | _ => stk := by simp only [evS] <;> rfl
@[simp] theorem evS_sub {o i e : E} : evS cal gl (.sub o i e) ρ h = exF ρ (evE cal gl e ρ h) fun x => exF ρ (evE cal gl o ρ x.2) fun y => exF ρ (evE cal gl i ρ y.2) fun z => bnd (setop y.1 z.1 x.1 z.2) fun h => .ok (.nx, ρ, h) := by simp only [evS] <;> rfl
@[simp] theorem evS_expr {e : E} : evS cal gl (.expr e) ρ h = exF ρ (evE cal gl e ρ h) fun x => .ok (.nx, ρ, x.2) := by simp only [evS] <;> rfl
@[simp] theorem evS_ret {e : E} : evS cal gl (.ret e) ρ h = exF ρ (evE cal gl e ρ h) fun x => .ok (.ret x.1, ρ, x.2) := by simp only [evS] <;> rfl
@[simp] theorem evS_retN : evS cal gl .retN ρ h = .ok (.ret .non, ρ, h) := by simp only [evS] <;> rfl
@[simp] theorem evS_iff {c : E} {a b : Ss} : evS cal gl (.iff c a b) ρ h = exF ρ (evE cal gl c ρ h) fun x => bnd (truR x.1 x.2) fun t => if t = true then evSs cal gl a ρ x.2 else evSs cal gl b ρ x.2 := by simp only [evS] <;> rfl
@[simp] theorem evS_pass : evS cal gl .pass ρ h = .ok (.nx, ρ, h) := by simp only [evS] <;> rfl
@[simp] theorem evS_brk : evS cal gl .brk ρ h = .ok (.bk, ρ, h) := by simp only [evS] <;> rfl
@[simp] theorem evS_cnt : evS cal gl .cnt ρ h = .ok (.ct, ρ, h) := by simp only [evS] <;> rfl
/-- a for loop's body -/
def fbody (cal : Cal) (gl : Gls) (t : Tg) (b : Ss) : PV → Slts → MH → R (Fl × Slts × MH) := fun v ρ h => bnd (bindT t v ρ) fun ρ' => evSs cal gl b ρ' h
theorem evS_forr {t : Tg} {it : It} {b : Ss} : evS cal gl (.forr t it b) ρ h = exF ρ (evI cal gl it ρ h) fun x => forL (fbody cal gl t b) x.1.2 x.1.1 ρ x.2 := by simp only [evS] <;> rfl
@[simp] theorem evSs_nil : evSs cal gl .nil ρ h = .ok (.nx, ρ, h) := by simp only [evSs] <;> rfl
def sq (cal : Cal) (gl : Gls) (ss : Ss) (r : Fl × Slts × MH) : R (Fl × Slts × MH) := match r.1 with
    | .nx => evSs cal gl ss r.2.1 r.2.2
    | _ => .ok r
theorem evSs_cons {s : S} {ss : Ss} : evSs cal gl (.cons s ss) ρ h = bnd (evS cal gl s ρ h) (sq cal gl ss) := by simp only [evSs] <;> rfl
@[simp] theorem sq_nx {ss : Ss} : sq cal gl ss (.nx, ρ, h) = evSs cal gl ss ρ h := rfl
@[simp] theorem sq_ret {ss : Ss} {v : PV} : sq cal gl ss (.ret v, ρ, h) = .ok (.ret v, ρ, h) := rfl
@[simp] theorem sq_bk {ss : Ss} : sq cal gl ss (.bk, ρ, h) = .ok (.bk, ρ, h) := rfl
@[simp] theorem sq_ct {ss : Ss} : sq cal gl ss (.ct, ρ, h) = .ok (.ct, ρ, h) := rfl
@[simp] theorem sq_ex {ss : Ss} {c : Str} : sq cal gl ss (.ex c, ρ, h) = .ok (.ex c, ρ, h) := rfl
@[simp] theorem evE_var {i : Nat} : evE cal gl (.var i) ρ h = match ρ[i]? with | some (some v) => .ok (v, h) | _ => stk := by simp only [evE] <;> rfl
@[simp] theorem evE_non : evE cal gl .non ρ h = .ok (.non, h) := by simp only [evE] <;> rfl
@[simp] theorem evE_kbl {b : Bool} : evE cal gl (.kbl b) ρ h = .ok (.bl b, h) := by simp only [evE] <;> rfl
@[simp] theorem evE_kint {b : Int} : evE cal gl (.kint b) ρ h = .ok (.int b, h) := by simp only [evE] <;> rfl
@[simp] theorem evE_kstr {b : Str} : evE cal gl (.kstr b) ρ h = .ok (.str b, h) := by simp only [evE] <;> rfl
@[simp] theorem evE_glb {b : Str} : evE cal gl (.glb b) ρ h = match gl b with | some v => .ok (v, h) | none => stk := by simp only [evE] <;> rfl
@[simp] theorem evE_bin {op : Operator} {a b : E} : evE cal gl (.bin op a b) ρ h = bnd (evE cal gl a ρ h) fun x => bnd (evE cal gl b ρ x.2) fun y => bnd (binop op x.1 y.1 y.2) fun v => .ok (v, y.2) := by simp only [evE] <;> rfl
@[simp] theorem evE_cmp {op : CmpOp} {a b : E} : evE cal gl (.cmp op a b) ρ h = bnd (evE cal gl a ρ h) fun x => bnd (evE cal gl b ρ x.2) fun y => bnd (cmpop op x.1 y.1 y.2) fun v => .ok (.bl v, y.2) := by simp only [evE] <;> rfl
@[simp] theorem evE_chn {o1 o2 : CmpOp} {a b c : E} : evE cal gl (.chn o1 o2 a b c) ρ h = bnd (evE cal gl a ρ h) fun x => bnd (evE cal gl b ρ x.2) fun y => bnd (cmpop o1 x.1 y.1 y.2) fun v =>
    if v = true then bnd (evE cal gl c ρ y.2) fun z => bnd (cmpop o2 y.1 z.1 z.2) fun v => .ok (.bl v, z.2) else .ok (.bl false, y.2) := by simp only [evE] <;> rfl
@[simp] theorem evE_and {es : Es} : evE cal gl (.and es) ρ h = evAnd cal gl es ρ h := by simp only [evE] <;> rfl
@[simp] theorem evE_or {es : Es} : evE cal gl (.or es) ρ h = evOr cal gl es ρ h := by simp only [evE] <;> rfl
@[simp] theorem evE_not {a : E} : evE cal gl (.not a) ρ h = bnd (evE cal gl a ρ h) fun x => bnd (truR x.1 x.2) fun b => .ok (.bl (!b), x.2) := by simp only [evE] <;> rfl
@[simp] theorem evE_neg {a : E} : evE cal gl (.neg a) ρ h = bnd (evE cal gl a ρ h) fun x => match x.1 with | .int i => .ok (.int (-i), x.2) | _ => stk := by simp only [evE] <;> rfl
@[simp] theorem evE_idx {a b : E} : evE cal gl (.idx a b) ρ h = bnd (evE cal gl a ρ h) fun x => bnd (evE cal gl b ρ x.2) fun y => bnd (idxop x.1 y.1 y.2) fun v => .ok (v, y.2) := by simp only [evE] <;> rfl
@[simp] theorem evE_slc {a : E} {lo hi : Oe} : evE cal gl (.slc a lo hi) ρ h = bnd (evE cal gl a ρ h) fun x => bnd (evO cal gl lo ρ x.2) fun y => bnd (evO cal gl hi ρ y.2) fun z => bnd (slcop x.1 y.1 z.1 z.2) fun v => .ok (v, z.2) := by simp only [evE] <;> rfl
@[simp] theorem evE_tup {es : Es} : evE cal gl (.tup es) ρ h = bnd (evEs cal gl es ρ h) fun x => .ok (.tup x.1, x.2) := by simp only [evE] <;> rfl
@[simp] theorem evE_lst {es : Es} : evE cal gl (.lst es) ρ h = bnd (evEs cal gl es ρ h) fun x => .ok (.lst x.1, x.2) := by simp only [evE] <;> rfl
@[simp] theorem evE_lstM {es : Es} : evE cal gl (.lstM es) ρ h = bnd (evEs cal gl es ρ h) fun x => .ok (.ref x.2.length, x.2 ++ [.lst x.1]) := by simp only [evE] <;> rfl
@[simp] theorem evE_callP {f : String} {es : Es} : evE cal gl (.callP f es) ρ h = bnd (evEs cal gl es ρ h) fun x => callPl cal f x.1 x.2 := by simp only [evE] <;> rfl
@[simp] theorem evE_callH {f : String} {es : Es} : evE cal gl (.callH f es) ρ h = bnd (evEs cal gl es ρ h) fun x => cal f x.1 x.2 := by simp only [evE] <;> rfl
@[simp] theorem evE_blt {f : Bf} {es : Es} : evE cal gl (.blt f es) ρ h = bnd (evEs cal gl es ρ h) fun x => bnd (bltop f x.1 x.2) fun v => .ok (v, x.2) := by simp only [evE] <;> rfl
@[simp] theorem evE_isi {e : E} {t : Ty} : evE cal gl (.isi e t) ρ h = bnd (evE cal gl e ρ h) fun x => match tyOk x.1 x.2 t with | some b => .ok (.bl b, x.2) | none => stk := by simp only [evE] <;> rfl
@[simp] theorem evE_isiT {e : E} {ts : List Ty} : evE cal gl (.isiT e ts) ρ h = bnd (evE cal gl e ρ h) fun x => match tyAny x.1 x.2 ts with | some b => .ok (.bl b, x.2) | none => stk := by simp only [evE] <;> rfl
@[simp] theorem evE_mth {m : Mf} {o : E} {es : Es} : evE cal gl (.mth m o es) ρ h = bnd (evE cal gl o ρ h) fun x => if mthTy m x.1 x.2 = true then bnd (evEs cal gl es ρ x.2) fun y => mthop m x.1 y.1 y.2 else stk := by simp only [evE] <;> rfl
/-- a comprehension's body -/
def cbody (cal : Cal) (gl : Gls) (ρ : Slts) (own : List (Str × Nat)) (tg : Tg) (ifs : Es) (elt : E) : PV → MH → R (Option PV × MH) := fun v h => noEx (bnd (bindT tg v (wipeP ρ (own.map (·.2)))) fun ρ' => bnd (evTests cal gl ifs ρ' h) fun t =>
      if t.1 = true then bnd (evE cal gl elt ρ' t.2) fun r => .ok (some r.1, r.2) else .ok (none, t.2))
theorem evE_comp {m : Bool} {elt : E} {tg : Tg} {it : It} {ifs : Es} {own : List (Str × Nat)} : evE cal gl (.comp m elt tg it ifs own) ρ h = bnd (evI cal gl it ρ h) fun x =>
    bnd (compL (cbody cal gl ρ own tg ifs elt) x.1.2 x.1.1 x.2 []) fun r => if m = true then .ok (.ref r.2.length, r.2 ++ [.lst r.1]) else .ok (.lst r.1, r.2) := by simp only [evE] <;> rfl
@[simp] theorem evEs_nil : evEs cal gl .nil ρ h = .ok ([], h) := by simp only [evEs] <;> rfl
@[simp] theorem evEs_cons {e : E} {es : Es} : evEs cal gl (.cons e es) ρ h = bnd (evE cal gl e ρ h) fun x => bnd (evEs cal gl es ρ x.2) fun y => .ok (x.1 :: y.1, y.2) := by simp only [evEs] <;> rfl
@[simp] theorem evAnd_one {e : E} : evAnd cal gl (.cons e .nil) ρ h = bnd (evE cal gl e ρ h) fun x => .ok x := by simp only [evAnd] <;> rfl
@[simp] theorem evAnd_cons {e e2 : E} {es : Es} : evAnd cal gl (.cons e (.cons e2 es)) ρ h = bnd (evE cal gl e ρ h) fun x => bnd (truR x.1 x.2) fun t => if t = true then evAnd cal gl (.cons e2 es) ρ x.2 else .ok x := by simp only [evAnd] <;> rfl
@[simp] theorem evOr_one {e : E} : evOr cal gl (.cons e .nil) ρ h = bnd (evE cal gl e ρ h) fun x => .ok x := by simp only [evOr] <;> rfl
@[simp] theorem evOr_cons {e e2 : E} {es : Es} : evOr cal gl (.cons e (.cons e2 es)) ρ h = bnd (evE cal gl e ρ h) fun x => bnd (truR x.1 x.2) fun t => if t = true then .ok x else evOr cal gl (.cons e2 es) ρ x.2 := by simp only [evOr] <;> rfl
@[simp] theorem evTests_nil : evTests cal gl .nil ρ h = .ok (true, h) := by simp only [evTests] <;> rfl
@[simp] theorem evTests_one {e : E} : evTests cal gl (.cons e .nil) ρ h = bnd (evE cal gl e ρ h) fun x => bnd (truR x.1 x.2) fun t => .ok (t, x.2) := by simp only [evTests] <;> rfl
@[simp] theorem evO_no : evO cal gl .no ρ h = .ok (none, h) := by simp only [evO] <;> rfl
@[simp] theorem evO_yes {e : E} : evO cal gl (.yes e) ρ h = bnd (evE cal gl e ρ h) fun x => match x.1 with | .int i => .ok (some i, x.2) | _ => stk := by simp only [evO] <;> rfl
@[simp] theorem evI_seq {e : E} : evI cal gl (.seq e) ρ h = bnd (evE cal gl e ρ h) fun x => match x.1 with
    | .tup l => .ok ((l, []), x.2)
    | .str s => .ok ((s.cps.toList.map fun c => .str ⟨#[c]⟩, []), x.2)
    | v => match wview v x.2 with | some w => .ok (w, x.2) | none => stk := by simp only [evI] <;> rfl
@[simp] theorem evI_rng1 {e : E} : evI cal gl (.rng1 e) ρ h = bnd (evE cal gl e ρ h) fun x => match x.1 with
    | .int j => if rngOk j = true then .ok ((rngP j.toNat 0, []), x.2) else stk
    | _ => stk := by simp only [evI] <;> rfl
@[simp] theorem evI_rng2 {a b : E} : evI cal gl (.rng2 a b) ρ h = bnd (evE cal gl a ρ h) fun x => bnd (evE cal gl b ρ x.2) fun y => match x.1, y.1 with
    | .int i, .int j => if rngOk i = true ∧ rngOk j = true then .ok ((rngP (j - i).toNat i, []), y.2) else stk
    | _, _ => stk := by simp only [evI] <;> rfl
@[simp] theorem evI_enm {e : E} : evI cal gl (.enm e) ρ h = bnd (evE cal gl e ρ h) fun x => match x.1 with
    | .tup l => .ok ((enumP 0 l, []), x.2)
    | v => match wview v x.2 with
      | some w => .ok ((enumP 0 w.1, w.2), x.2)
      | none => stk := by simp only [evI] <;> rfl
@[simp] theorem evI_zip {a b : E} : evI cal gl (.zip a b) ρ h = bnd (evE cal gl a ρ h) fun x => bnd (evE cal gl b ρ x.2) fun y => match x.1, y.1 with
    | .tup l, .tup m => .ok ((zipP l m, []), y.2)
    | v, w => match wview v y.2, wview w y.2 with
      | some v, some w => .ok ((zipP v.1 w.1, v.2 ++ w.2), y.2)
      | _, _ => stk := by simp only [evI] <;> rfl
@[simp] theorem evE_fld {c f : Str} {e : E} : evE cal gl (.fld c e f) ρ h = bnd (evE cal gl e ρ h) fun x => bnd (fldop c x.1 f x.2) fun v => .ok (v, x.2) := by simp only [evE] <;> rfl
@[simp] theorem evE_mcallD {c nm : Str} {f : String} {o : E} {es : Es} : evE cal gl (.mcallD c nm f o es) ρ h = bnd (evE cal gl o ρ h) fun x => if isOb c nm x.1 x.2 = true then bnd (evEs cal gl es ρ x.2) fun y => cal f (x.1 :: (y.1 ++ [.non])) y.2 else stk := by simp only [evE] <;> rfl
@[simp] theorem evE_mcall {c nm : Str} {f : String} {o : E} {es : Es} : evE cal gl (.mcall c nm f o es) ρ h = bnd (evE cal gl o ρ h) fun x => if isOb c nm x.1 x.2 = true then bnd (evEs cal gl es ρ x.2) fun y => cal f (x.1 :: y.1) y.2 else stk := by simp only [evE] <;> rfl
@[simp] theorem evE_make {f : String} {es : Es} : evE cal gl (.make f es) ρ h = bnd (evEs cal gl es ρ h) fun x => cal f x.1 x.2 := by simp only [evE] <;> rfl
@[simp] theorem evE_ddisp {ks : List L2.Key} {es : Es} : evE cal gl (.ddisp ks es) ρ h = bnd (evEs cal gl es ρ (h ++ [.dct []])) fun x => bnd (dispop h.length ks x.1 x.2) fun h' => .ok (.ref h.length, h') := by simp only [evE] <;> rfl
@[simp] theorem evS_raise {c : Str} : evS cal gl (.raise c) ρ h = .ok (.ex c, ρ, h) := by simp only [evS] <;> rfl
@[simp] theorem evE_dnewN : evE cal gl .dnewN ρ h = .ok (.ref h.length, h ++ [.dcN []]) := by simp only [evE] <;> rfl
@[simp] theorem evE_getN {o : E} {es : Es} : evE cal gl (.getN o es) ρ h = bnd (evE cal gl o ρ h) fun x => if (nview x.1 x.2).isSome = true then bnd (evEs cal gl es ρ x.2) fun y => bnd (getopN x.1 y.1 y.2) fun v => .ok (v, y.2) else stk := by simp only [evE] <;> rfl
@[simp] theorem evE_spc1 {m : Bool} {f : Spf} {e : E} : evE cal gl (.spc1 m f e) ρ h = bnd (evE cal gl e ρ h) fun x => bnd (spcop f [x.1] x.2) fun l => if m = true then .ok (.ref x.2.length, x.2 ++ [.lst l]) else .ok (.lst l, x.2) := by simp only [evE] <;> rfl
@[simp] theorem evE_revT {e : E} : evE cal gl (.revT e) ρ h = bnd (evE cal gl e ρ h) fun x => match x.1 with | .tup l => .ok (.tup l.reverse, x.2) | _ => stk := by simp only [evE] <;> rfl
@[simp] theorem evE_srtK {e : E} {f : String} : evE cal gl (.srtK e f) ρ h = bnd (evE cal gl e ρ h) fun x => match lview x.1 x.2 with
    | some l => bnd (keysK cal f l x.2) fun ks => .ok (.lst (sortK ks.1 l), ks.2)
    | none => stk := by simp only [evE] <;> rfl
@[simp] theorem evE_lenS {e : E} : evE cal gl (.lenS e) ρ h = bnd (evE cal gl e ρ h) fun x => match lview x.1 x.2 with
    | some l => (match intsP l with | some ns => if ns.length ≤ 4000 then .ok (.int ((dedI ns).length : Nat), x.2) else stk | none => stk)
    | none => stk := by simp only [evE] <;> rfl
@[simp] theorem evE_slcS {a : E} {lo : Oe} {n : Nat} : evE cal gl (.slcS a lo n) ρ h = bnd (evE cal gl a ρ h) fun x => bnd (evO cal gl lo ρ x.2) fun y => match lview x.1 y.2 with | some l => .ok (.lst (stepP l y.1 n), y.2) | none => stk := by simp only [evE] <;> rfl
@[simp] theorem evE_spc2 {m : Bool} {a b : E} : evE cal gl (.spc2 m a b) ρ h = bnd (evE cal gl a ρ h) fun x => bnd (evE cal gl b ρ x.2) fun y => bnd (spcop .rng2 [x.1, y.1] y.2) fun l => if m = true then .ok (.ref y.2.length, y.2 ++ [.lst l]) else .ok (.lst l, y.2) := by simp only [evE] <;> rfl
@[simp] theorem evE_sth {f : Sf} {o : E} {es : Es} : evE cal gl (.sth f o es) ρ h = bnd (evE cal gl o ρ h) fun x => match x.1 with
    | .str _ => bnd (evEs cal gl es ρ x.2) fun y => bnd (sthop f x.1 y.1 y.2) fun v => .ok (v, y.2)
    | _ => stk := by simp only [evE] <;> rfl
@[simp] theorem evE_dnewT : evE cal gl .dnewT ρ h = .ok (.ref h.length, h ++ [.dcT []]) := by simp only [evE] <;> rfl
@[simp] theorem evE_getT {o d : E} {ks : Es} : evE cal gl (.getT o ks d) ρ h = bnd (evE cal gl o ρ h) fun x => if (tview x.1 x.2).isSome = true then bnd (evEs cal gl ks ρ x.2) fun y => bnd (evE cal gl d ρ y.2) fun z => match tview x.1 z.2, keysP y.1 with
    | some l, some k => .ok ((valP l k).getD z.1, z.2)
    | _, _ => stk
    else stk := by simp only [evE] <;> rfl
@[simp] theorem evS_setT {o e : E} {ks : Es} : evS cal gl (.setT o ks e) ρ h = exF ρ (evE cal gl e ρ h) fun x => exF ρ (evE cal gl o ρ x.2) fun y => exF ρ (evEs cal gl ks ρ y.2) fun z => bnd (setopT y.1 z.1 x.1 z.2) fun h => .ok (.nx, ρ, h) := by simp only [evS] <;> rfl
@[simp] theorem evE_dnew : evE cal gl .dnew ρ h = .ok (.ref h.length, h ++ [.dct []]) := by simp only [evE] <;> rfl
@[simp] theorem evS_sfld {c f : Str} {o e : E} : evS cal gl (.sfld c o f e) ρ h = exF ρ (evE cal gl e ρ h) fun x => exF ρ (evE cal gl o ρ x.2) fun y => bnd (setfld c y.1 f x.1 y.2) fun h => .ok (.nx, ρ, h) := by simp only [evS] <;> rfl
@[simp] theorem evE_lrepD {e n : E} : evE cal gl (.lrepD e n) ρ h = bnd (evE cal gl e ρ h) fun x => bnd (evE cal gl n ρ x.2) fun y => match y.1 with
    | .int i => if 0 ≤ i ∧ i ≤ 1000 then .ok (.ref y.2.length, y.2 ++ [.lst (List.replicate i.toNat x.1)]) else stk
    | _ => stk := by simp only [evE] <;> rfl
@[simp] theorem evE_mcallV {cs : List (Str × String)} {nm : Str} {dd : Bool} {o : E} {es : Es} : evE cal gl (.mcallV cs nm dd o es) ρ h = bnd (evE cal gl o ρ h) fun x => match clsOf x.1 x.2 with
    | some c => (match cs.lookup c with
      | some f => if isOb c nm x.1 x.2 = true then bnd (evEs cal gl es ρ x.2) fun y => cal f (x.1 :: (y.1 ++ if dd = true then [.non] else [])) y.2 else stk
      | none => stk)
    | none => stk := by simp only [evE] <;> rfl
@[simp] theorem evS_asg2 {o i e : E} {j : Nat} : evS cal gl (.asg2 o i j e) ρ h = exF ρ (evE cal gl e ρ h) fun x => match x.1 with
    | .tup [v, u] => exF ρ (evE cal gl o ρ x.2) fun y => exF ρ (evE cal gl i ρ y.2) fun z => bnd (setop y.1 z.1 v z.2) fun h => .ok (.nx, ρ.set j (some u), h)
    | _ => stk := by simp only [evS] <;> rfl
@[simp] theorem evE_lrep {e : E} {n : Nat} : evE cal gl (.lrep e n) ρ h = bnd (evE cal gl e ρ h) fun x => .ok (.ref x.2.length, x.2 ++ [.lst (List.replicate n x.1)]) := by simp only [evE] <;> rfl
end
@[simp] theorem bindT_name {i : Nat} {v : PV} {ρ : Slts} : bindT (.name i) v ρ = .ok (ρ.set i (some v)) := rfl
@[simp] theorem dview_lst {l : List PV} {h : MH} : dview (.lst l) h = none := rfl
@[simp] theorem dview_tup {l : List PV} {h : MH} : dview (.tup l) h = none := rfl
@[simp] theorem dview_str {l : Str} {h : MH} : dview (.str l) h = none := rfl
@[simp] theorem nview_lst {l : List PV} {h : MH} : nview (.lst l) h = none := rfl
@[simp] theorem nview_tup {l : List PV} {h : MH} : nview (.tup l) h = none := rfl
@[simp] theorem nview_str {l : Str} {h : MH} : nview (.str l) h = none := rfl
@[simp] theorem truR_bl {b : Bool} {h : MH} : truR (.bl b) h = .ok b := rfl
@[simp] theorem truR_int {i : Int} {h : MH} : truR (.int i) h = .ok (i != 0) := rfl
@[simp] theorem noRefs_ints (ns : List Int) : noRefs (ns.map PV.int) = true := by
  induction ns with
  | nil => rfl
  | cons n ns ih => simp [noRefs, noRef, ih]
@[simp] theorem noRef_int {i : Int} : noRef (.int i) = true := rfl
@[simp] theorem noRef_bl {i : Bool} : noRef (.bl i) = true := rfl
@[simp] theorem noRef_non : noRef .non = true := rfl
@[simp] theorem noRef_str {i : Str} : noRef (.str i) = true := rfl
@[simp] theorem noRef_tup {l : List PV} : noRef (.tup l) = noRefs l := by simp only [noRef]
@[simp] theorem noRef_lst {l : List PV} : noRef (.lst l) = noRefs l := by simp only [noRef]
@[simp] theorem noRefs_nil : noRefs [] = true := rfl
@[simp] theorem noRefs_cons {v : PV} {l : List PV} : noRefs (v :: l) = (noRef v && noRefs l) := by simp only [noRefs]
/-- a call, by its run -/
theorem run_ret {pg : Pg} {k : Nat} {f : String} {d : FD} {vs : List PV} {h h' : MH} {v : PV} {ρ : Slts} (hf : pg.fn f = some d) (hl : vs.length = d.ar)
    (hb : evSs (run pg k) pg.gl d.body (vs.map some ++ List.replicate (d.sl - d.ar) none) h = .ok (.ret v, ρ, h')) : run pg (k + 1) f vs h = .ok (v, h') := by
  rw [run, hf]
  simp only [hl, if_true, hb]
@[simp] theorem exF_exc {α : Type} {ρ : Slts} {c : Str} {h : MH} {f : α → R (Fl × Slts × MH)} : exF ρ (.error (.exc c h)) f = .ok (.ex c, ρ, h) := rfl
/-- a block that returns -/
def Rets (Q : PV → MH → Prop) (r : R (Fl × Slts × MH)) : Prop := ∃ x ρ h, r = .ok (.ret x, ρ, h) ∧ Q x h
theorem rets_step {cal : Cal} {gl : Gls} {s : S} {ss : Ss} {ρ ρ' : Slts} {h h' : MH} {Q : PV → MH → Prop} (e : evS cal gl s ρ h = .ok (.nx, ρ', h')) (t : Rets Q (evSs cal gl ss ρ' h')) : Rets Q (evSs cal gl (.cons s ss) ρ h) := by
  rw [evSs_cons, e]; exact t
theorem rets_end {cal : Cal} {gl : Gls} {s : S} {ss : Ss} {ρ ρ' : Slts} {h h' : MH} {x : PV} {Q : PV → MH → Prop} (e : evS cal gl s ρ h = .ok (.ret x, ρ', h')) (q : Q x h') : Rets Q (evSs cal gl (.cons s ss) ρ h) := by
  rw [evSs_cons, e]; exact ⟨x, ρ', h', rfl, q⟩
theorem run_rets {pg : Pg} {k : Nat} {f : String} {d : FD} {vs : List PV} {h : MH} {Q : PV → MH → Prop} (hf : pg.fn f = some d) (hl : vs.length = d.ar)
    (hb : Rets Q (evSs (run pg k) pg.gl d.body (vs.map some ++ List.replicate (d.sl - d.ar) none) h)) : ∃ v h', run pg (k + 1) f vs h = .ok (v, h') ∧ Q v h' := by
  obtain ⟨x, ρ, h', hb, q⟩ := hb
  exact ⟨x, h', run_ret hf hl hb, q⟩
theorem law_by {pg : Pg} {k : Nat} {f : String} {d : FD} {vs : List PV} {h : MH} (hf : pg.fn f = some d) (hl : vs.length = d.ar)
    (hb : Rets (fun v _ => v = .bl true) (evSs (run pg k) pg.gl d.body (vs.map some ++ List.replicate (d.sl - d.ar) none) h)) : ∃ h', run pg (k + 1) f vs h = .ok (.bl true, h') := by
  obtain ⟨x, h', e, q⟩ := run_rets hf hl hb
  subst q
  exact ⟨h', e⟩
/-- a plain call of plain things -/
theorem callP_of {cal : Cal} {f : String} {vs : List PV} {h h' : MH} {v : PV} (hn : noRefs vs = true) (hc : cal f vs [] = .ok (v, h')) (hv : noRef (frz h' v) = true) : callPl cal f vs h = .ok (frz h' v, h) := by
  unfold callPl
  have e : vs.map (snap h) = vs := snap_ids hn
  rw [e, if_pos hn, hc]
  simp only [hv, hn, true_or, and_self, if_true]
/-- .. that gives a plain thing -/
theorem callP_val {cal : Cal} {f : String} {vs : List PV} {h h' : MH} {v : PV} (hc : cal f vs [] = .ok (v, h')) (hn : noRefs vs = true := by simp) (hv : noRef v = true := by simp) : callPl cal f vs h = .ok (v, h) := by
  have e : frz h' v = v := by cases v <;> first | rfl | (simp [noRef] at hv)
  have := callP_of hn hc (by rw [e]; exact hv) (h := h)
  rwa [e] at this
theorem forL_inv {f : PV → Slts → MH → R (Fl × Slts × MH)} {lk : Lk} (P : Nat → Slts → MH → Prop) : ∀ {items : List PV} {ρ : Slts} {h : MH} (i0 : Nat), P i0 ρ h → (∀ i ρ h, P i ρ h → lkOk lk h = true) →
    (∀ i x ρ h, items[i]? = some x → P (i0 + i) ρ h → ∃ fl ρ' h', f x ρ h = .ok (fl, ρ', h') ∧ (fl = .nx ∨ fl = .ct) ∧ P (i0 + i + 1) ρ' h') → ∃ ρ' h', forL f lk items ρ h = .ok (.nx, ρ', h') ∧ P (i0 + items.length) ρ' h'
  | [], ρ, h, i0, h0, hk, hs => ⟨ρ, h, by simp only [forL, hk _ _ _ h0, if_true], by simpa using h0⟩
  | x :: xs, ρ, h, i0, h0, hk, hs => by
    obtain ⟨fl, ρ1, h1, e, hf, p1⟩ := hs 0 x ρ h (by simp) (by simpa using h0)
    obtain ⟨ρ2, h2, e2, p2⟩ := forL_inv P (items := xs) (i0 + 1) (by simpa using p1) hk (fun i y ρ h ey p => by
      have := hs (i + 1) y ρ h (by simpa using ey) (by rw [show i0 + (i + 1) = i0 + 1 + i by omega]; exact p)
      rwa [show i0 + (i + 1) + 1 = i0 + 1 + i + 1 by omega] at this)
    refine ⟨ρ2, h2, ?_, by rw [List.length_cons, show i0 + (xs.length + 1) = i0 + 1 + xs.length by omega]; exact p2⟩
    simp only [forL, hk _ _ _ h0, if_true, e, bnd_ok]
    rcases hf with rfl | rfl <;> exact e2
def dropS : Nat → Ss → Ss
  | 0, s => s
  | _ + 1, .nil => .nil
  | n + 1, .cons _ s => dropS n s
theorem evSs_step {cal : Cal} {gl : Gls} {s : S} {ss : Ss} {ρ ρ' : Slts} {h h' : MH} {r : R (Fl × Slts × MH)} (e : evS cal gl s ρ h = .ok (.nx, ρ', h')) (t : evSs cal gl ss ρ' h' = r) : evSs cal gl (.cons s ss) ρ h = r := by
  rw [evSs_cons, e]; exact t
def cAt (ns : List Int) (j : Nat) : Int := ns.getD j 0
def cellBody : Ss :=
  (.cons (.iff (.cmp .Lt (.var 1) (.blt .len (.cons (.var 0) .nil)))
    (.cons (.ret (.idx (.var 0) (.var 1))) <|
    .nil)
    (.nil)) <|
  .cons (.ret (.kint 0)) <|
  .nil)
theorem cell_at {pg : Pg} (hf : pg.fn "_law_cell_at" = some ⟨"_law_cell_at", 2, 2, cellBody⟩) (k : Nat) (ns : List Int) (j : Nat) (h : MH) : run pg (k + 1) "_law_cell_at" [.lst (ns.map PV.int), .int j] h = .ok (.int (cAt ns j), h) := by
  refine run_ret hf rfl (ρ := [some (.lst (ns.map PV.int)), some (.int j)]) ?_
  simp [cellBody, evSs_cons, bltop, sview, cmpop, idxop, idxopS]
  split
  · rename_i hj
    have e : L2.atI (ns.map PV.int) (j : Int) = some (.int ns[j]) := L2.atI_nat (by simp [hj])
    simp [e, hj, cAt]
  · rename_i hj
    simp [evSs_cons, List.getElem?_eq_none (Nat.le_of_not_lt hj), cAt]
@[simp] theorem log2_lt9 {n : Nat} (h : n < 18446744073709551616) : Nat.log2 n < 9000 := by
  by_cases hz : n = 0
  · subst hz; decide
  · have := (Nat.log2_lt hz).mpr (show n < 2 ^ 64 by omega)
    omega
end Rg

namespace Rg
open PySem
@[simp] theorem truR_non {h : MH} : truR .non h = .ok false := rfl
@[simp] theorem truR_tup {l : List PV} {h : MH} : truR (.tup l) h = .ok (!l.isEmpty) := rfl
@[simp] theorem truR_lst {l : List PV} {h : MH} : truR (.lst l) h = .ok (!l.isEmpty) := rfl
theorem peqs_ints : ∀ {a b : List Int}, peqs (a.map PV.int) (b.map PV.int) = decide (a = b)
  | [], [] => by simp [peqs]
  | [], _ :: _ => by simp [peqs]
  | _ :: _, [] => by simp [peqs]
  | x :: a, y :: b => by
    simp only [List.map_cons, peqs, peq, peqs_ints (a := a) (b := b)]
    by_cases h : x = y <;> simp [h]
@[simp] theorem deps_ints : ∀ a : List Int, deps (a.map PV.int) = 0
  | [] => by simp [deps]
  | x :: a => by simp [deps, dep, deps_ints a]
@[simp] theorem eqop_int {a b : Int} {h : MH} : eqop (.int a) (.int b) h = .ok (decide (a = b)) := by
  have e : (a == b) = decide (a = b) := by by_cases h : a = b <;> simp [h]
  simp [eqop, snap, noRef, dep, peq, e]
@[simp] theorem eqop_bl {a b : Bool} {h : MH} : eqop (.bl a) (.bl b) h = .ok (a == b) := by
  simp [eqop, snap, noRef, dep, peq]
@[simp] theorem eqop_str {a b : Str} {h : MH} : eqop (.str a) (.str b) h = .ok (a == b) := by
  simp [eqop, snap, noRef, dep, peq]
@[simp] theorem eqop_ints {a b : List Int} {h : MH} : eqop (.lst (a.map PV.int)) (.lst (b.map PV.int)) h = .ok (decide (a = b)) := by
  simp [eqop, snap, noRef, dep, peq, peqs_ints]
theorem eqop_tup {a b : List PV} {h : MH} (n : noRefs a = true) (m : noRefs b = true) (d : deps a ≤ 60) : eqop (.tup a) (.tup b) h = .ok (peqs a b) := by
  simp only [eqop, snap, noRef, n, m, dep, peq]
  rw [if_pos ⟨trivial, trivial, by omega⟩]
@[simp] theorem cmp_Eq {a b : PV} {h : MH} : cmpop .Eq a b h = eqop a b h := rfl
@[simp] theorem cmp_NotEq {a b : PV} {h : MH} : cmpop .NotEq a b h = bnd (eqop a b h) fun r => .ok (!r) := rfl
@[simp] theorem cmp_Is {a b : PV} {h : MH} : cmpop .Is a b h = isop a b := rfl
@[simp] theorem cmp_IsNot {a b : PV} {h : MH} : cmpop .IsNot a b h = bnd (isop a b) fun r => .ok (!r) := rfl
@[simp] theorem cmp_In {a b : PV} {h : MH} : cmpop .In a b h = inop a b h := rfl
@[simp] theorem cmp_NotIn {a b : PV} {h : MH} : cmpop .NotIn a b h = bnd (inop a b h) fun r => .ok (!r) := rfl
@[simp] theorem cmp_Lt {a b : Int} {h : MH} : cmpop .Lt (.int a) (.int b) h = .ok (decide (a < b)) := rfl
@[simp] theorem cmp_LtE {a b : Int} {h : MH} : cmpop .LtE (.int a) (.int b) h = .ok (decide (a ≤ b)) := rfl
@[simp] theorem cmp_Gt {a b : Int} {h : MH} : cmpop .Gt (.int a) (.int b) h = .ok (decide (b < a)) := rfl
@[simp] theorem cmp_GtE {a b : Int} {h : MH} : cmpop .GtE (.int a) (.int b) h = .ok (decide (b ≤ a)) := rfl
theorem all_flat_ints (l : List Int) : (l.map PV.int).all flatP = true := by
  induction l with
  | nil => rfl
  | cons x l ih => simp [flatP, ih]
theorem any_ints (l : List Int) (x : Int) : ((l.map PV.int).any fun z => peq z (.int x)) = decide (x ∈ l) := by
  induction l with
  | nil => simp
  | cons y l ih =>
    simp only [List.map_cons, List.any_cons, ih, peq]
    by_cases h : y = x
    · simp [h]
    · have : ¬ x = y := fun e => h e.symm
      simp [h, this]
@[simp] theorem inop_ints {l : List Int} {x : Int} {h : MH} : inop (.int x) (.lst (l.map PV.int)) h = .ok (decide (x ∈ l)) := by
  unfold inop
  simp only [dview_lst, nview_lst, inopS, sview]
  rw [if_pos ⟨rfl, all_flat_ints l⟩, any_ints]
theorem forL_ok {f : PV → Slts → MH → R (Fl × Slts × MH)} {lk : Lk} (P : List PV → Slts → MH → Prop) {items : List PV} {ρ : Slts} {h : MH} (h0 : P items ρ h) (hk : ∀ r ρ h, P r ρ h → lkOk lk h = true)
    (hs : ∀ x r ρ h, P (x :: r) ρ h → ∃ fl ρ' h', f x ρ h = .ok (fl, ρ', h') ∧ (fl = .nx ∨ fl = .ct) ∧ P r ρ' h') : ∃ ρ' h', forL f lk items ρ h = .ok (.nx, ρ', h') ∧ P [] ρ' h' := by
  induction items generalizing ρ h with
  | nil => exact ⟨ρ, h, by simp only [forL, hk _ _ _ h0, if_true], h0⟩
  | cons x r ih =>
    obtain ⟨fl, ρ1, h1, e, hf, p1⟩ := hs x r ρ h h0
    obtain ⟨ρ2, h2, e2, p2⟩ := ih p1
    refine ⟨ρ2, h2, ?_, p2⟩
    simp only [forL, hk _ _ _ h0, if_true, e, bnd_ok]
    rcases hf with rfl | rfl <;> exact e2
theorem whlL_ok {f : Slts → MH → R (Option Fl × Slts × MH)} {Q : Slts → MH → Prop} (P : Nat → Slts → MH → Prop) (hs : ∀ i ρ h, P i ρ h → (∃ ρ' h', f ρ h = .ok (none, ρ', h') ∧ Q ρ' h') ∨ ∃ fl ρ' h' j, f ρ h = .ok (some fl, ρ', h') ∧ (fl = .nx ∨ fl = .ct) ∧ j < i ∧ P j ρ' h') :
    ∀ (n i : Nat) {ρ : Slts} {h : MH}, P i ρ h → i < n → ∃ ρ' h', whlL f n ρ h = .ok (.nx, ρ', h') ∧ Q ρ' h'
  | 0, i, ρ, h, _, hn => absurd hn (Nat.not_lt_zero _)
  | n + 1, i, ρ, h, p, hn => by
    rcases hs i ρ h p with ⟨ρ', h', e, q⟩ | ⟨fl, ρ', h', j, e, hf, hj, pj⟩
    · exact ⟨ρ', h', by simp only [whlL, e, bnd_ok], q⟩
    · obtain ⟨ρ2, h2, e2, q⟩ := whlL_ok P hs n j pj (by omega)
      refine ⟨ρ2, h2, ?_, q⟩
      simp only [whlL, e, bnd_ok]
      rcases hf with rfl | rfl <;> exact e2
/-- a while loop's body -/
def wbody (cal : Cal) (gl : Gls) (c : E) (b : Ss) : Slts → MH → R (Option Fl × Slts × MH) := fun ρ h => match evE cal gl c ρ h with
      | .error .stuck => stk
      | .error (.exc c h) => .ok (some (.ex c), ρ, h)
      | .ok x => bnd (truR x.1 x.2) fun t => if t = true then bnd (evSs cal gl b ρ x.2) fun r => .ok (some r.1, r.2) else .ok (none, ρ, x.2)
theorem evS_whl {cal : Cal} {gl : Gls} {ρ : Slts} {h : MH} {n : Nat} {c : E} {b : Ss} : evS cal gl (.whl n c b) ρ h = whlL (wbody cal gl c b) n ρ h := by simp only [evS] <;> rfl
mutual
def okV : PV → Bool
  | .ref _ => false
  | .tup l => decide (l.length ≤ 1000) && okVs l
  | .lst l => decide (l.length ≤ 1000) && okVs l
  | _ => true
def okVs : List PV → Bool
  | [] => true
  | v :: r => okV v && okVs r
end
mutual
theorem okV_noRef : ∀ {v : PV}, okV v = true → noRef v = true
  | .non, _ => rfl
  | .bl _, _ => rfl
  | .int _, _ => rfl
  | .str _, _ => rfl
  | .tup l, h => by simp only [okV, Bool.and_eq_true] at h; simp only [noRef]; exact okVs_noRefs h.2
  | .lst l, h => by simp only [okV, Bool.and_eq_true] at h; simp only [noRef]; exact okVs_noRefs h.2
  | .ref _, h => by simp [okV] at h
theorem okVs_noRefs : ∀ {v : List PV}, okVs v = true → noRefs v = true
  | [], _ => rfl
  | v :: r, h => by simp only [okVs, Bool.and_eq_true] at h; simp only [noRefs, okV_noRef h.1, okVs_noRefs h.2, Bool.and_self]
end
theorem okVs_get : ∀ {l : List PV} {i : Nat} {v : PV}, okVs l = true → l[i]? = some v → okV v = true ∧ dep v ≤ deps l
  | [], i, v, _, e => by simp at e
  | x :: l, 0, v, h, e => by
    simp only [okVs, Bool.and_eq_true] at h
    simp at e; subst e
    exact ⟨h.1, by simp only [deps]; omega⟩
  | x :: l, i + 1, v, h, e => by
    simp only [okVs, Bool.and_eq_true] at h
    obtain ⟨a, b⟩ := okVs_get (l := l) (i := i) (v := v) h.2 (by simpa using e)
    exact ⟨a, by simp only [deps]; omega⟩
end Rg

namespace Sh
open PySem Rg
section
variable {pg : Pg}
def b_whole : Ss :=
  (.cons (.ret (.and (.cons (.isi (.var 0) .int) (.cons (.not (.isi (.var 0) .bool)) .nil)))) <|
  .nil)
theorem whole {f : String} {py : Str} (hf : pg.fn f = some ⟨py, 1, 1, b_whole⟩) (k : Nat) {v : PV} {a b : Bool} (hn : noRef v = true) (ha : tyOk v [] .int = some a) (hb : tyOk v [] .bool = some b) (h : MH) : callPl (run pg (k + 1)) f [v] h = .ok (.bl (a && !b), h) := by
  refine callP_val (h' := []) (run_ret hf rfl (ρ := [some v]) ?_) (by simp [hn])
  cases a <;> simp [b_whole, evSs_cons, ha, hb]
theorem cellP (hf : pg.fn "_law_cell_at" = some ⟨"_law_cell_at", 2, 2, cellBody⟩) (k : Nat) (ns : List Int) (j : Nat) (h : MH) : callPl (run pg (k + 1)) "_law_cell_at" [.lst (ns.map PV.int), .int j] h = .ok (.int (cAt ns j), h) := callP_val (cell_at hf k ns j [])
def b_alike : Ss :=
  (.cons (.iff (.cmp .Is (.var 1) .non)
    (.cons (.ret (.cmp .Is (.var 0) .non)) <|
    .nil)
    (.nil)) <|
  .cons (.iff (.isi (.var 1) .bool)
    (.cons (.ret (.and (.cons (.isi (.var 0) .bool) (.cons (.cmp .Eq (.var 0) (.var 1)) .nil)))) <|
    .nil)
    (.nil)) <|
  .cons (.iff (.isi (.var 1) .int)
    (.cons (.ret (.and (.cons (.isi (.var 0) .int) (.cons (.not (.isi (.var 0) .bool)) (.cons (.cmp .Eq (.var 0) (.var 1)) .nil))))) <|
    .nil)
    (.nil)) <|
  .cons (.iff (.isi (.var 1) .str)
    (.cons (.ret (.and (.cons (.isi (.var 0) .str) (.cons (.cmp .Eq (.var 0) (.var 1)) .nil)))) <|
    .nil)
    (.nil)) <|
  .cons (.iff (.and (.cons (.isi (.var 1) .tuple) (.cons (.not (.isi (.var 0) .tuple)) .nil)))
    (.cons (.ret (.kbl false)) <|
    .nil)
    (.nil)) <|
  .cons (.iff (.and (.cons (.isi (.var 1) .list) (.cons (.not (.isi (.var 0) .list)) .nil)))
    (.cons (.ret (.kbl false)) <|
    .nil)
    (.nil)) <|
  .cons (.iff (.cmp .NotEq (.blt .len (.cons (.var 0) .nil)) (.blt .len (.cons (.var 1) .nil)))
    (.cons (.ret (.kbl false)) <|
    .nil)
    (.nil)) <|
  .cons (.forr (.name 2) (.rng1 (.blt .len (.cons (.var 1) .nil)))
    (.cons (.iff (.not (.callP "_law_alike" (.cons (.idx (.var 0) (.var 2)) (.cons (.idx (.var 1) (.var 2)) .nil))))
      (.cons (.ret (.kbl false)) <|
      .nil)
      (.nil)) <|
    .nil)) <|
  .cons (.ret (.kbl true)) <|
  .nil)
theorem alike_loop (k : Nat) {v : PV} {l : List PV} (hv : sview v [] = some l) (hs : ∀ s, v ≠ .str s) (hl : l.length ≤ 1000) (hn : ∀ (j : Nat) (x : PV), l[j]? = some x → callPl (run pg k) "_law_alike" [x, x] [] = .ok (.bl true, [])) :
    ∃ e, forL (fbody (run pg k) pg.gl (.name 2) (.cons (.iff (.not (.callP "_law_alike" (.cons (.idx (.var 0) (.var 2)) (.cons (.idx (.var 1) (.var 2)) .nil)))) (.cons (.ret (.kbl false)) .nil) .nil) .nil)) [] (rngP l.length 0) [some v, some v, none] [] = .ok (.nx, [some v, some v, e], []) := by
  obtain ⟨ρ', h', e, p⟩ := forL_inv (lk := []) (f := fbody (run pg k) pg.gl (.name 2) (.cons (.iff (.not (.callP "_law_alike" (.cons (.idx (.var 0) (.var 2)) (.cons (.idx (.var 1) (.var 2)) .nil)))) (.cons (.ret (.kbl false)) .nil) .nil) .nil))
    (fun _ ρ h => ∃ e, ρ = [some v, some v, e] ∧ h = []) (items := rngP l.length 0) (ρ := [some v, some v, none]) (h := []) 0 ⟨none, rfl, rfl⟩ (fun _ _ _ _ => rfl) (by
      rintro i x ρ h ei ⟨e, rfl, rfl⟩
      obtain ⟨hi, rfl⟩ := rngP_get _ _ i x ei
      rw [Int.zero_add]
      have at1 : L2.atI l (i : Int) = some l[i] := L2.atI_nat (by simp [hi])
      have ix : idxop v (.int i) [] = .ok l[i] := by
        cases v with
        | str s => exact absurd rfl (hs s)
        | tup m => simp only [sview] at hv; cases hv; simp only [idxop, dview_tup, dview_lst, nview_tup, nview_lst, idxopS, sview, at1]
        | lst m => simp only [sview] at hv; cases hv; simp only [idxop, dview_tup, dview_lst, nview_tup, nview_lst, idxopS, sview, at1]
        | ref n => simp [sview] at hv
        | _ => simp [sview] at hv
      refine ⟨.nx, _, _, ?_, .inl rfl, some (.int i), rfl, rfl⟩
      simp [fbody, evSs_cons, ix, hn i _ (List.getElem?_eq_getElem hi)])
  obtain ⟨e', rfl, rfl⟩ := p
  exact ⟨e', e⟩
theorem alike_run (hf : pg.fn "_law_alike" = some ⟨"_law_alike", 2, 3, b_alike⟩) : ∀ (n : Nat) (v : PV) (k : Nat), dep v ≤ n → okV v = true → n + 1 ≤ k → ∃ h', run pg k "_law_alike" [v, v] [] = .ok (.bl true, h') := by
  intro n
  induction n with
  | zero =>
    intro v k hd ho hk
    obtain ⟨k, rfl⟩ : ∃ j, k = j + 1 := ⟨k - 1, by omega⟩
    refine ⟨[], run_ret hf rfl (ρ := [some v, some v, none]) ?_⟩
    cases v with
    | non => simp [b_alike, evSs_cons, isop]
    | bl b =>
      refine evSs_step (by simp [isop]; exact ⟨rfl, rfl⟩) ?_
      rw [evSs_cons]
      simp [tyOk, evSs_cons]
    | int b =>
      refine evSs_step (by simp [isop]; exact ⟨rfl, rfl⟩) ?_
      refine evSs_step (by simp [tyOk]; exact ⟨rfl, rfl⟩) ?_
      rw [evSs_cons]
      simp [tyOk, evSs_cons]
    | str b =>
      refine evSs_step (by simp [isop]; exact ⟨rfl, rfl⟩) ?_
      refine evSs_step (by simp [tyOk]; exact ⟨rfl, rfl⟩) ?_
      refine evSs_step (by simp [tyOk]; exact ⟨rfl, rfl⟩) ?_
      rw [evSs_cons]
      simp [tyOk, evSs_cons]
    | tup l => simp [dep] at hd
    | lst l => simp [dep] at hd
    | ref l => simp [okV] at ho
  | succ n ih =>
    intro v k hd ho hk
    obtain ⟨k, rfl⟩ : ∃ j, k = j + 1 := ⟨k - 1, by omega⟩
    have seqs : ∀ {l : List PV}, sview v [] = some l → (∀ s, v ≠ .str s) → okVs l = true → l.length ≤ 1000 → deps l ≤ n → ∃ e, forL (fbody (run pg k) pg.gl (.name 2) (.cons (.iff (.not (.callP "_law_alike" (.cons (.idx (.var 0) (.var 2)) (.cons (.idx (.var 1) (.var 2)) .nil)))) (.cons (.ret (.kbl false)) .nil) .nil) .nil)) [] (rngP l.length 0) [some v, some v, none] [] = .ok (.nx, [some v, some v, e], []) := fun {l} hv hs ol ll dl =>
      alike_loop k hv hs ll fun j x ej => by
        obtain ⟨h1, h2⟩ := okVs_get ol ej
        obtain ⟨h', e⟩ := ih x k (by omega) h1 (by omega)
        exact callP_val e (by simp [okV_noRef h1])
    have rg : ∀ {m : Nat}, m ≤ 1000 → rngOk (m : Int) = true := fun {m} hm => rngOk_of (by omega)
    cases v with
    | non => exact ih .non (k + 1) (Nat.zero_le _) rfl (by omega)
    | bl b => exact ih (.bl b) (k + 1) (Nat.zero_le _) rfl (by omega)
    | int b => exact ih (.int b) (k + 1) (Nat.zero_le _) rfl (by omega)
    | str b => exact ih (.str b) (k + 1) (Nat.zero_le _) rfl (by omega)
    | tup l =>
      simp only [okV, Bool.and_eq_true, decide_eq_true_eq] at ho
      simp only [dep] at hd
      obtain ⟨e, he⟩ := seqs (l := l) rfl (by intro s z; cases z) ho.2 ho.1 (by omega)
      refine ⟨[], run_ret hf rfl (ρ := [some (.tup l), some (.tup l), e]) ?_⟩
      refine evSs_step (by simp [isop]; exact ⟨rfl, rfl⟩) ?_
      refine evSs_step (by simp [tyOk]; exact ⟨rfl, rfl⟩) ?_
      refine evSs_step (by simp [tyOk]; exact ⟨rfl, rfl⟩) ?_
      refine evSs_step (by simp [tyOk]; exact ⟨rfl, rfl⟩) ?_
      refine evSs_step (by simp [tyOk]; exact ⟨rfl, rfl⟩) ?_
      refine evSs_step (by simp [tyOk]; exact ⟨rfl, rfl⟩) ?_
      refine evSs_step (by simp [bltop, sview]; exact ⟨rfl, rfl⟩) ?_
      refine evSs_step (by simp [bltop, sview, evS_forr, rg ho.1, he]; exact ⟨rfl, rfl⟩) ?_
      simp [evSs_cons]
    | lst l =>
      simp only [okV, Bool.and_eq_true, decide_eq_true_eq] at ho
      simp only [dep] at hd
      obtain ⟨e, he⟩ := seqs (l := l) rfl (by intro s z; cases z) ho.2 ho.1 (by omega)
      refine ⟨[], run_ret hf rfl (ρ := [some (.lst l), some (.lst l), e]) ?_⟩
      refine evSs_step (by simp [isop]; exact ⟨rfl, rfl⟩) ?_
      refine evSs_step (by simp [tyOk]; exact ⟨rfl, rfl⟩) ?_
      refine evSs_step (by simp [tyOk]; exact ⟨rfl, rfl⟩) ?_
      refine evSs_step (by simp [tyOk]; exact ⟨rfl, rfl⟩) ?_
      refine evSs_step (by simp [tyOk]; exact ⟨rfl, rfl⟩) ?_
      refine evSs_step (by simp [tyOk]; exact ⟨rfl, rfl⟩) ?_
      refine evSs_step (by simp [bltop, sview]; exact ⟨rfl, rfl⟩) ?_
      refine evSs_step (by simp [bltop, sview, evS_forr, rg ho.1, he]; exact ⟨rfl, rfl⟩) ?_
      simp [evSs_cons]
    | ref l => simp [okV] at ho
theorem alike (hf : pg.fn "_law_alike" = some ⟨"_law_alike", 2, 3, b_alike⟩) {v : PV} {k : Nat} (ho : okV v = true) (hk : dep v + 1 ≤ k) (h : MH) : callPl (run pg k) "_law_alike" [v, v] h = .ok (.bl true, h) := by
  obtain ⟨h', e⟩ := alike_run hf (dep v) v k (Nat.le_refl _) ho hk
  exact callP_val e (by simp [okV_noRef ho])
def b_name : Ss :=
  (.cons (.asg (.name 1) (.bin .Add (.kint 1) (.bin .Mod (.var 0) (.kint 8)))) <|
  .cons (.asg (.name 2) (.kstr "")) <|
  .cons (.whl 100000 (.cmp .Lt (.blt .len (.cons (.var 2) .nil)) (.var 1))
    (.cons (.asg (.name 2) (.bin .Add (.var 2) (.idx (.kstr "abcdefghijklmnopqrstuvwxyz") (.bin .Mod (.bin .FloorDiv (.var 0) (.kint 8)) (.kint 26))))) <|
    .cons (.asg (.name 0) (.bin .FloorDiv (.var 0) (.kint 3))) <|
    .nil)) <|
  .cons (.ret (.var 2)) <|
  .nil)
theorem abc_all : ∀ b : Fin 26, (L2.atI (Str.ofString "abcdefghijklmnopqrstuvwxyz").cps.toList (b.val : Int)).isSome = true := by decide +kernel
theorem name_run (hf : pg.fn "_law_name" = some ⟨"_law_name", 1, 3, b_name⟩) (k : Nat) (cell : Int) : ∃ s : Str, s.length ≤ 8 ∧ run pg (k + 1) "_law_name" [.int cell] [] = .ok (.str s, []) := by
  obtain ⟨size, hsize⟩ : ∃ z, z = 1 + cell % 8 := ⟨_, rfl⟩
  have h1 : 1 ≤ size ∧ size ≤ 8 := by omega
  obtain ⟨ρ', h', e, s, c, rfl, rfl, hs⟩ := whlL_ok (Q := fun ρ h => ∃ (s : Str) (c : Int), ρ = [some (.int c), some (.int size), some (.str s)] ∧ h = [] ∧ s.length ≤ 8)
    (f := wbody (run pg k) pg.gl (.cmp .Lt (.blt .len (.cons (.var 2) .nil)) (.var 1)) (.cons (.asg (.name 2) (.bin .Add (.var 2) (.idx (.kstr "abcdefghijklmnopqrstuvwxyz") (.bin .Mod (.bin .FloorDiv (.var 0) (.kint 8)) (.kint 26))))) <| .cons (.asg (.name 0) (.bin .FloorDiv (.var 0) (.kint 3))) <| .nil))
    (fun i ρ h => ∃ (s : Str) (c : Int), ρ = [some (.int c), some (.int size), some (.str s)] ∧ h = [] ∧ s.length ≤ 8 ∧ i = 8 - s.length) (by
      rintro i ρ h ⟨s, c, rfl, rfl, hs, rfl⟩
      by_cases hc : (s.length : Int) < size
      · refine .inr ?_
        obtain ⟨z, hz⟩ := Option.isSome_iff_exists.mp (abc_all ⟨(c / 8 % 26).toNat, by omega⟩)
        have hz' : L2.atI (Str.ofString "abcdefghijklmnopqrstuvwxyz").cps.toList (c / 8 % 26) = some z := by
          have : (((⟨(c / 8 % 26).toNat, by omega⟩ : Fin 26).val : Nat) : Int) = c / 8 % 26 := by simp; omega
          rw [this] at hz; exact hz
        have hb : s.length + 1 ≤ big := by
          have : (100 : Nat) ≤ big := by decide
          omega
        have hl : (s ++ (⟨#[z]⟩ : Str)).length = s.length + 1 := by
          show (s.cps ++ #[z]).size = s.cps.size + 1
          simp
        have ix : idxop (.str "abcdefghijklmnopqrstuvwxyz") (.int (c / 8 % 26)) [] = .ok (.str ⟨#[z]⟩) := by
          simp only [idxop, dview_str, nview_str, idxopS, hz']
        have bo : binop .Add (.str s) (.str ⟨#[z]⟩) [] = .ok (.str (s ++ (⟨#[z]⟩ : Str))) := by
          show (if s.length + (⟨#[z]⟩ : Str).length ≤ big then _ else _) = _
          rw [if_pos]
          exact hb
        have bm : ∀ x : Int, binop .FloorDiv (.int x) (.int 8) [] = .ok (.int (x / 8)) := fun x => rfl
        have bm3 : ∀ x : Int, binop .FloorDiv (.int x) (.int 3) [] = .ok (.int (x / 3)) := fun x => rfl
        have bm2 : ∀ x : Int, binop .Mod (.int x) (.int 26) [] = .ok (.int (x % 26)) := fun x => rfl
        refine ⟨.nx, _, _, 8 - (s ++ (⟨#[z]⟩ : Str)).length, ?_, .inl rfl, by rw [hl]; omega, s ++ (⟨#[z]⟩ : Str), c / 3, rfl, rfl, by rw [hl]; omega, rfl⟩
        simp [wbody, bltop, hc, evSs_cons, bm, bm2, bm3, ix, bo]
      · refine .inl ⟨_, _, ?_, s, c, rfl, rfl, hs⟩
        simp [wbody, bltop, hc])
    100000 8 (ρ := [some (.int cell), some (.int size), some (.str "")]) (h := []) ⟨"", cell, rfl, rfl, by decide, by decide⟩ (by decide)
  refine ⟨s, hs, run_ret hf rfl (ρ := [some (.int c), some (.int size), some (.str s)]) ?_⟩
  have b8 : ∀ x : Int, binop .Mod (.int x) (.int 8) [] = .ok (.int (x % 8)) := fun x => rfl
  have ba : ∀ x y : Int, binop .Add (.int x) (.int y) [] = .ok (.int (x + y)) := fun x y => rfl
  simp [b_name, evSs_cons, b8, ba, ← hsize, evS_whl, e]
theorem name (hf : pg.fn "_law_name" = some ⟨"_law_name", 1, 3, b_name⟩) (k : Nat) (cell : Int) : ∃ s : Str, s.length ≤ 8 ∧ ∀ h, callPl (run pg (k + 1)) "_law_name" [.int cell] h = .ok (.str s, h) := by
  obtain ⟨s, hs, e⟩ := name_run hf k cell
  exact ⟨s, hs, fun h => callP_val e⟩
end
end Sh

namespace Rg
open PySem
theorem idx_nat {v : PV} {l : List PV} {h : MH} {n : Nat} {x : PV} (hv : sview v h = some l) (hs : ∀ s, v ≠ .str s) (e : l[n]? = some x) : idxop v (.int (n : Int)) h = .ok x := by
  have a : L2.atI l (n : Int) = some x := L2.atI_nat e
  cases v with
  | str s => exact absurd rfl (hs s)
  | tup m => simp only [sview] at hv; cases hv; simp only [idxop, dview_tup, dview_lst, nview_tup, nview_lst, idxopS, sview, a]
  | lst m => simp only [sview] at hv; cases hv; simp only [idxop, dview_tup, dview_lst, nview_tup, nview_lst, idxopS, sview, a]
  | ref n =>
    have d : dview (.ref n) h = none := by
      simp only [sview] at hv
      simp only [dview]
      split at hv
      · rename_i m hm; rw [hm]
      · cases hv
    have d2 : nview (.ref n) h = none := by
      simp only [sview] at hv
      simp only [nview]
      split at hv
      · rename_i m hm; rw [hm]
      · cases hv
    simp only [idxop, d, d2, idxopS, hv, a]
  | _ => simp [sview] at hv
theorem idx_tup {l : List PV} {h : MH} {n : Nat} {x : PV} (e : l[n]? = some x) : idxop (.tup l) (.int (n : Int)) h = .ok x := idx_nat rfl (fun _ z => by cases z) e
theorem idx_lst {l : List PV} {h : MH} {n : Nat} {x : PV} (e : l[n]? = some x) : idxop (.lst l) (.int (n : Int)) h = .ok x := idx_nat rfl (fun _ z => by cases z) e
@[simp] theorem idx_t0 {a : PV} {l : List PV} {h : MH} : idxop (.tup (a :: l)) (.int 0) h = .ok a := idx_tup (n := 0) rfl
@[simp] theorem idx_t1 {a b : PV} {l : List PV} {h : MH} : idxop (.tup (a :: b :: l)) (.int 1) h = .ok b := idx_tup (n := 1) rfl
@[simp] theorem idx_t2 {a b c : PV} {l : List PV} {h : MH} : idxop (.tup (a :: b :: c :: l)) (.int 2) h = .ok c := idx_tup (n := 2) rfl
@[simp] theorem idx_t3 {a b c d : PV} {l : List PV} {h : MH} : idxop (.tup (a :: b :: c :: d :: l)) (.int 3) h = .ok d := idx_tup (n := 3) rfl
@[simp] theorem idx_t4 {a b c d e : PV} {l : List PV} {h : MH} : idxop (.tup (a :: b :: c :: d :: e :: l)) (.int 4) h = .ok e := idx_tup (n := 4) rfl
@[simp] theorem idx_t5 {a b c d e f : PV} {l : List PV} {h : MH} : idxop (.tup (a :: b :: c :: d :: e :: f :: l)) (.int 5) h = .ok f := idx_tup (n := 5) rfl
@[simp] theorem idx_l0 {a : PV} {l : List PV} {h : MH} : idxop (.lst (a :: l)) (.int 0) h = .ok a := idx_lst (n := 0) rfl
@[simp] theorem idx_l1 {a b : PV} {l : List PV} {h : MH} : idxop (.lst (a :: b :: l)) (.int 1) h = .ok b := idx_lst (n := 1) rfl
@[simp] theorem idx_l2 {a b c : PV} {l : List PV} {h : MH} : idxop (.lst (a :: b :: c :: l)) (.int 2) h = .ok c := idx_lst (n := 2) rfl
/-- one of two, of three -/
theorem idx_of2 {a b : PV} {x : Int} {h : MH} (h0 : 0 ≤ x) (h1 : x < 2) : idxop (.lst [a, b]) (.int x) h = .ok (if x = 0 then a else b) := by
  by_cases e : x = 0
  · subst e; exact idx_l0
  · obtain rfl : x = 1 := by omega
    exact idx_l1
theorem idx_of3 {a b c : PV} {x : Int} {h : MH} (h0 : 0 ≤ x) (h1 : x < 3) : idxop (.lst [a, b, c]) (.int x) h = .ok (if x = 0 then a else if x = 1 then b else c) := by
  by_cases e : x = 0
  · subst e; exact idx_l0
  · by_cases e1 : x = 1
    · subst e1; exact idx_l1
    · obtain rfl : x = 2 := by omega
      exact idx_l2
@[simp] theorem idx_m2 {a b : PV} {x : Int} {h : MH} : idxop (.lst [a, b]) (.int (x % 2)) h = .ok (if x % 2 = 0 then a else b) := idx_of2 (by omega) (by omega)
@[simp] theorem idx_m3 {a b c : PV} {x : Int} {h : MH} : idxop (.lst [a, b, c]) (.int (x % 3)) h = .ok (if x % 3 = 0 then a else if x % 3 = 1 then b else c) := idx_of3 (by omega) (by omega)
@[simp] theorem okV_int {i : Int} : okV (.int i) = true := rfl
@[simp] theorem okV_bl {i : Bool} : okV (.bl i) = true := rfl
@[simp] theorem okV_non : okV .non = true := rfl
@[simp] theorem okV_str {i : Str} : okV (.str i) = true := rfl
@[simp] theorem okVs_nil : okVs [] = true := rfl
@[simp] theorem okVs_cons {v : PV} {r : List PV} : okVs (v :: r) = (okV v && okVs r) := by simp only [okVs]
end Rg

namespace Rg
open PySem
abbrev Dc := List (L2.Key × PV)
def dsort (d : Dc) : Dc := d.mergeSort fun a b => keyLe a.1 b.1
def ND (d : Dc) : Prop := (d.map (·.1)).Nodup
theorem dsort_perm (d : Dc) : (dsort d).Perm d := List.mergeSort_perm _ _
theorem dsort_sorted (d : Dc) : (dsort d).Pairwise fun a b => keyLe a.1 b.1 = true :=
  List.pairwise_mergeSort (le := fun a b : L2.Key × PV => keyLe a.1 b.1) (fun a b c => keyLe_trans a.1 b.1 c.1) (fun a b => keyLe_total a.1 b.1) d
theorem ND.tail {p : L2.Key × PV} {d : Dc} (h : ND (p :: d)) : ND d := (List.nodup_cons.mp h).2
theorem val_nil (k : L2.Key) : valP [] k = none := rfl
theorem val_hit {p : L2.Key × PV} {d : Dc} {k : L2.Key} (e : p.1 = k) : valP (p :: d) k = some p.2 := by simp [valP, List.find?_cons, e]
theorem val_miss {p : L2.Key × PV} {d : Dc} {k : L2.Key} (e : ¬ p.1 = k) : valP (p :: d) k = valP d k := by simp [valP, List.find?_cons, e]
theorem val_mem : ∀ {d : Dc} {k : L2.Key} {v : PV}, valP d k = some v → (k, v) ∈ d
  | [], k, v, h => by simp [val_nil] at h
  | p :: d, k, v, h => by
    by_cases e : p.1 = k
    · rw [val_hit e] at h
      cases h
      rw [← e]; exact List.mem_cons_self
    · rw [val_miss e] at h
      exact List.mem_cons_of_mem _ (val_mem h)
theorem mem_val : ∀ {d : Dc} {k : L2.Key} {v : PV}, ND d → (k, v) ∈ d → valP d k = some v
  | [], k, v, _, h => by simp at h
  | p :: d, k, v, nd, h => by
    rcases List.mem_cons.mp h with rfl | h
    · exact val_hit rfl
    · have : ¬ p.1 = k := fun e => (List.nodup_cons.mp nd).1 (List.mem_map.mpr ⟨(k, v), h, e.symm⟩)
      rw [val_miss this]
      exact mem_val nd.tail h
theorem val_none : ∀ {d : Dc} {k : L2.Key}, valP d k = none ↔ k ∉ d.map (·.1)
  | [], k => by simp [val_nil]
  | p :: d, k => by
    by_cases e : p.1 = k
    · rw [val_hit e]; simp [e]
    · rw [val_miss e, val_none, List.map_cons, List.mem_cons]
      constructor
      · rintro h (z | z)
        · exact e z.symm
        · exact h z
      · exact fun h z => h (.inr z)
theorem any_iff (d : Dc) (k : L2.Key) : (d.any fun kv => decide (kv.1 = k)) = true ↔ k ∈ d.map (·.1) := by
  rw [List.any_eq_true]
  constructor
  · rintro ⟨x, hx, e⟩
    exact List.mem_map.mpr ⟨x, hx, of_decide_eq_true e⟩
  · intro h
    obtain ⟨x, hx, e⟩ := List.mem_map.mp h
    exact ⟨x, hx, decide_eq_true e⟩
theorem put_keys_nd {d : Dc} {k : L2.Key} {v : PV} (nd : ND d) : ND (putP d k v) := by
  unfold ND putP
  split
  · rw [dct_map_keys]; exact nd
  · rename_i h
    rw [any_iff] at h
    rw [List.map_append, List.nodup_append]
    refine ⟨nd, by simp, fun a ha b hb e => ?_⟩
    simp only [List.map_cons, List.map_nil, List.mem_singleton] at hb
    subst hb; subst e
    exact h ha
theorem mem_put {d : Dc} {k : L2.Key} {v : PV} {p : L2.Key × PV} : p ∈ putP d k v ↔ p = (k, v) ∨ (p.1 ≠ k ∧ p ∈ d) := by
  unfold putP
  split
  · rename_i h
    rw [any_iff] at h
    rw [List.mem_map]
    constructor
    · rintro ⟨q, hq, e⟩
      by_cases z : q.1 = k
      · rw [if_pos z] at e; left; rw [← e, z]
      · rw [if_neg z] at e; right; rw [← e]; exact ⟨z, hq⟩
    · rintro (rfl | ⟨z, hp⟩)
      · obtain ⟨q, hq, e⟩ := List.mem_map.mp h
        exact ⟨q, hq, by rw [if_pos e, e]⟩
      · exact ⟨p, hp, if_neg z⟩
  · rename_i h
    rw [any_iff] at h
    rw [List.mem_append, List.mem_singleton]
    constructor
    · rintro (hp | rfl)
      · exact .inr ⟨fun e => h (e ▸ List.mem_map.mpr ⟨p, hp, rfl⟩), hp⟩
      · exact .inl rfl
    · rintro (rfl | ⟨_, hp⟩)
      · exact .inr rfl
      · exact .inl hp
theorem put_len {d : Dc} {k : L2.Key} {v : PV} : (putP d k v).length ≤ d.length + 1 := by
  unfold putP
  split
  · rw [List.length_map]; omega
  · rw [List.length_append]; simp
theorem nd_pairs {d : Dc} (h : ND d) : d.Nodup := by
  induction d with
  | nil => exact List.nodup_nil
  | cons p d ih =>
    refine List.nodup_cons.mpr ⟨fun z => (List.nodup_cons.mp h).1 (List.mem_map.mpr ⟨p, z, rfl⟩), ih h.tail⟩
/-- the same pairs, in order: the same list -/
theorem dsort_of {l d : Dc} (nl : ND l) (nd : ND d) (hm : ∀ p, p ∈ l ↔ p ∈ d) (s : l.Pairwise fun a b => keyLe a.1 b.1 = true) : dsort d = l :=
  (pairs_uniq ((List.perm_ext_iff_of_nodup (nd_pairs nl) (nd_pairs nd)).mpr hm) s nd).symm
theorem dsort_nd {d : Dc} (h : ND d) : ND (dsort d) := ((dsort_perm d).map _).nodup_iff.mpr h
theorem mem_dsort {d : Dc} {p : L2.Key × PV} : p ∈ dsort d ↔ p ∈ d := (dsort_perm d).mem_iff
theorem dsort_len (d : Dc) : (dsort d).length = d.length := (dsort_perm d).length_eq
theorem dsort_eq {l d : Dc} (nl : ND l) (nd : ND d) (hm : ∀ p, p ∈ l ↔ p ∈ d) : dsort l = dsort d :=
  (dsort_of (dsort_nd nd) nl (fun p => mem_dsort.trans (hm p).symm) (dsort_sorted d))
theorem lt_le {a b : L2.Key} (h : keyLt a b = true) : keyLe a b = true := by
  simp only [keyLe]; rw [keyLt_asym _ _ h]; rfl
/-- one row put in its place -/
theorem dsort_put {d : Dc} {k : L2.Key} {v : PV} (nd : ND d) : dsort (putP d k v) = (dsort d).filter (fun p => keyLt p.1 k) ++ [(k, v)] ++ (dsort d).filter (fun p => keyLt k p.1) := by
  have ns := dsort_nd nd
  have s := dsort_sorted d
  refine dsort_of ?_ (put_keys_nd nd) (fun p => ?_) ?_
  · unfold ND
    rw [List.append_assoc, List.map_append, List.nodup_append]
    refine ⟨(ns.sublist (List.Sublist.map _ List.filter_sublist)), ?_, ?_⟩
    · rw [List.map_append, List.nodup_append]
      refine ⟨by simp, (ns.sublist (List.Sublist.map _ List.filter_sublist)), fun a ha b hb e => ?_⟩
      simp only [List.map_cons, List.map_nil, List.mem_singleton] at ha
      obtain ⟨q, hq, eq⟩ := List.mem_map.mp hb
      have := (List.mem_filter.mp hq).2
      rw [eq, ← e, ha, keyLt_irr] at this
      cases this
    · intro a ha b hb e
      obtain ⟨q, hq, eq⟩ := List.mem_map.mp ha
      have h1 := (List.mem_filter.mp hq).2
      rw [eq] at h1
      rw [List.map_append, List.mem_append] at hb
      rcases hb with hb | hb
      · simp only [List.map_cons, List.map_nil, List.mem_singleton] at hb
        rw [e, hb, keyLt_irr] at h1; cases h1
      · obtain ⟨q', hq', eq'⟩ := List.mem_map.mp hb
        have h2 := (List.mem_filter.mp hq').2
        rw [eq', ← e] at h2
        have := keyLt_asym _ _ h1
        rw [h2] at this; cases this
  · rw [mem_put, List.append_assoc, List.mem_append, List.mem_append, List.mem_filter, List.mem_filter, List.mem_singleton, mem_dsort]
    constructor
    · rintro (⟨h1, h2⟩ | rfl | ⟨h1, h2⟩)
      · exact .inr ⟨fun e => (by rw [e, keyLt_irr] at h2; cases h2), h1⟩
      · exact .inl rfl
      · exact .inr ⟨fun e => (by rw [e, keyLt_irr] at h2; cases h2), h1⟩
    · rintro (rfl | ⟨h1, h2⟩)
      · exact .inr (.inl rfl)
      · cases h3 : keyLt p.1 k with
        | true => exact .inl ⟨h2, rfl⟩
        | false =>
          cases h4 : keyLt k p.1 with
          | true => exact .inr (.inr ⟨h2, rfl⟩)
          | false => exact absurd (keyLt_anti _ _ h3 h4) h1
  · rw [List.append_assoc, List.pairwise_append]
    refine ⟨s.sublist List.filter_sublist, ?_, fun a ha b hb => ?_⟩
    · rw [List.pairwise_append]
      refine ⟨List.pairwise_singleton _ _, s.sublist List.filter_sublist, fun a ha b hb => ?_⟩
      rw [List.mem_singleton] at ha
      subst ha
      exact lt_le (List.mem_filter.mp hb).2
    · have h1 := lt_le (List.mem_filter.mp ha).2
      rw [List.mem_append, List.mem_singleton] at hb
      rcases hb with rfl | hb
      · exact h1
      · exact keyLe_trans _ _ _ h1 (lt_le (List.mem_filter.mp hb).2)
/-- one row taken out, put at the end, and the whole sorted -/
theorem dsort_add {d : Dc} {k : L2.Key} {v : PV} (nd : ND d) : ND ((dsort d).filter (fun p => decide (p.1 ≠ k)) ++ [(k, v)]) ∧ dsort ((dsort d).filter (fun p => decide (p.1 ≠ k)) ++ [(k, v)]) = dsort (putP d k v) := by
  have n1 : ND ((dsort d).filter (fun p => decide (p.1 ≠ k)) ++ [(k, v)]) := by
    unfold ND
    rw [List.map_append, List.nodup_append]
    refine ⟨((dsort_nd nd).sublist (List.Sublist.map _ List.filter_sublist)), by simp, fun a ha b hb e => ?_⟩
    simp only [List.map_cons, List.map_nil, List.mem_singleton] at hb
    obtain ⟨q, hq, eq⟩ := List.mem_map.mp ha
    have := of_decide_eq_true (List.mem_filter.mp hq).2
    exact this (by rw [eq, e, hb])
  refine ⟨n1, dsort_eq n1 (put_keys_nd nd) fun p => ?_⟩
  rw [mem_put, List.mem_append, List.mem_singleton, List.mem_filter, mem_dsort, decide_eq_true_eq]
  constructor
  · rintro (⟨h1, h2⟩ | rfl)
    · exact .inr ⟨h2, h1⟩
    · exact .inl rfl
  · rintro (rfl | ⟨h1, h2⟩)
    · exact .inr rfl
    · exact .inl ⟨h2, h1⟩
theorem valP_sort {d : Dc} (nd : ND d) (k : L2.Key) : valP (dsort d) k = valP d k := by
  cases h : valP d k with
  | some v => exact mem_val (dsort_nd nd) (mem_dsort.mpr (val_mem h))
  | none =>
    rw [val_none] at h ⊢
    intro z
    obtain ⟨q, hq, e⟩ := List.mem_map.mp z
    exact h (e ▸ List.mem_map.mpr ⟨q, mem_dsort.mp hq, rfl⟩)
end Rg
namespace Rg
open PySem
theorem compL_dc {f : PV → MH → R (Option PV × MH)} {h : MH} (P : L2.Key × PV → Bool) : ∀ {l : Dc} {acc : List PV}, (∀ p ∈ l, f p.2 h = .ok (if P p = true then some p.2 else none, h)) → acc.length + l.length ≤ big → compL f [] (l.map (·.2)) h acc = .ok (acc ++ (l.filter P).map (·.2), h)
  | [], acc, _, _ => by simp [compL]
  | p :: l, acc, hf, hl => by
    rw [List.length_cons] at hl
    simp only [List.map_cons, compL, lkOk_nil, if_true, hf p List.mem_cons_self, bnd_ok]
    cases e : P p with
    | true =>
      simp only [if_true]
      rw [if_pos (by omega), compL_dc P (fun q hq => hf q (List.mem_cons_of_mem _ hq)) (by rw [List.length_append, List.length_singleton]; omega), List.filter_cons_of_pos e, List.map_cons, List.append_assoc]
      rfl
    | false =>
      simp only [Bool.false_eq_true, if_false]
      rw [compL_dc P (fun q hq => hf q (List.mem_cons_of_mem _ hq)) (by omega), List.filter_cons_of_neg (by rw [e]; exact Bool.false_ne_true)]
/-- plain, not deep -/
def Ok (n : Nat) (v : PV) : Prop := okV v = true ∧ dep v ≤ n
@[simp] theorem dview_dct {n : Nat} {h : MH} {d : Dc} (e : h[n]? = some (.dct d)) : dview (.ref n) h = some d := by simp only [dview, e]
@[simp] theorem dview_at0 {d : Dc} {h : MH} : dview (.ref 0) (.dct d :: h) = some d := rfl
end Rg

namespace Rg
open PySem
mutual
/-- texts, whole numbers, None, tuples of them -/
def plV : PV → Bool
  | .non => true
  | .int _ => true
  | .str _ => true
  | .tup l => decide (l.length ≤ 1000) && plVs l
  | _ => false
def plVs : List PV → Bool
  | [] => true
  | v :: r => plV v && plVs r
end
@[simp] theorem plV_non : plV .non = true := rfl
@[simp] theorem plV_int {i : Int} : plV (.int i) = true := rfl
@[simp] theorem plV_str {i : Str} : plV (.str i) = true := rfl
@[simp] theorem plVs_nil : plVs [] = true := rfl
@[simp] theorem plVs_cons {v : PV} {r : List PV} : plVs (v :: r) = (plV v && plVs r) := by simp only [plVs]
theorem plV_tup {l : List PV} : plV (.tup l) = (decide (l.length ≤ 1000) && plVs l) := by simp only [plV]
mutual
theorem plV_no : ∀ {v : PV}, plV v = true → noRef v = true
  | .non, _ => rfl
  | .int _, _ => rfl
  | .str _, _ => rfl
  | .tup l, h => by simp only [plV, Bool.and_eq_true] at h; simp only [noRef]; exact plVs_no h.2
  | .bl _, h => by simp [plV] at h
  | .lst _, h => by simp [plV] at h
  | .ref _, h => by simp [plV] at h
theorem plVs_no : ∀ {v : List PV}, plVs v = true → noRefs v = true
  | [], _ => rfl
  | v :: r, h => by simp only [plVs, Bool.and_eq_true] at h; simp only [noRefs, plV_no h.1, plVs_no h.2, Bool.and_self]
end
/-- plain, of a depth -/
def Pn (n : Nat) (v : PV) : Prop := plV v = true ∧ dep v ≤ n
theorem Pn.no {n : Nat} {v : PV} (h : Pn n v) : noRef v = true := plV_no h.1
theorem Pn.mono {n m : Nat} {v : PV} (h : Pn n v) (l : n ≤ m) : Pn m v := ⟨h.1, Nat.le_trans h.2 l⟩
theorem Pn.ite {c : Prop} [Decidable c] {a b : PV} {n : Nat} (ha : Pn n a) (hb : Pn n b) : Pn n (if c then a else b) := by split <;> assumption
theorem Pn.list {n : Nat} : ∀ {l : List PV}, (∀ v ∈ l, Pn n v) → plVs l = true ∧ deps l ≤ n
  | [], _ => ⟨rfl, by simp [deps]⟩
  | v :: l, h => by
    obtain ⟨h1, h2⟩ := h v List.mem_cons_self
    obtain ⟨h3, h4⟩ := Pn.list (l := l) fun w hw => h w (List.mem_cons_of_mem _ hw)
    exact ⟨by simp [h1, h3], by simp only [deps]; omega⟩
theorem Pn.tup {n : Nat} {l : List PV} (h : ∀ v ∈ l, Pn n v) (hl : l.length ≤ 1000) : Pn (n + 1) (.tup l) := by
  obtain ⟨h1, h2⟩ := Pn.list h
  exact ⟨by rw [plV_tup, h1]; simp [hl], by simp only [dep]; omega⟩
def RowK (p : L2.Key × PV) : Prop := ∃ r, p.2 = .tup (keyV p.1 :: r)
theorem keyP_V' (k : L2.Key) : keyP (keyV k) = some k := by cases k <;> rfl
theorem tupKeys_rows : ∀ {l : Dc}, (∀ p ∈ l, RowK p) → tupKeys (l.map (·.2)) = some l
  | [], _ => rfl
  | (k, v) :: l, h => by
    obtain ⟨r, e⟩ := h _ List.mem_cons_self
    simp only at e
    subst e
    simp only [List.map_cons, tupKeys, keyP_V', tupKeys_rows fun q hq => h q (List.mem_cons_of_mem _ hq)]
theorem keysP_rows {l : Dc} (h : ∀ p ∈ l, RowK p) (hn : l ≠ []) : keysP (l.map (·.2)) = none := by
  cases l with
  | nil => exact absurd rfl hn
  | cons p l =>
    obtain ⟨r, e⟩ := h p List.mem_cons_self
    simp only [List.map_cons, keysP, e, keyP]
/-- sorted(rows) -/
theorem sort_rows {v : PV} {h : MH} {l : Dc} (hv : lview v h = some (l.map (·.2))) (hd : dview v h = none) (hr : ∀ p ∈ l, RowK p) (hn : l ≠ []) (nd : ND l) (hk : oneKind (l.map (·.1)) = true) : sortop v h = .ok (.lst ((dsort l).map (·.2))) := by
  unfold sortop
  simp only [hd, hv, keysP_rows hr hn, tupKeys_rows hr, hk, true_and]
  rw [if_pos (show (l.map (·.1)).Nodup from nd)]
  rfl
theorem find_loop {f : PV → Slts → MH → R (Fl × Slts × MH)} {h : MH} (K : L2.Key) (ret : PV → PV) (inv : Slts → Prop) : ∀ {l : Dc} {ρ : Slts}, inv ρ → (∀ p ∈ l, ∀ ρ, inv ρ → (p.1 = K → ∃ ρ', f p.2 ρ h = .ok (.ret (ret p.2), ρ', h)) ∧ (p.1 ≠ K → ∃ ρ', f p.2 ρ h = .ok (.nx, ρ', h) ∧ inv ρ')) →
    (∃ v ρ', valP l K = some v ∧ forL f [] (l.map (·.2)) ρ h = .ok (.ret (ret v), ρ', h)) ∨ (valP l K = none ∧ ∃ ρ', forL f [] (l.map (·.2)) ρ h = .ok (.nx, ρ', h) ∧ inv ρ')
  | [], ρ, hi, _ => .inr ⟨rfl, ρ, by simp [forL], hi⟩
  | p :: l, ρ, hi, hf => by
    obtain ⟨h1, h2⟩ := hf p List.mem_cons_self ρ hi
    by_cases e : p.1 = K
    · obtain ⟨ρ', e1⟩ := h1 e
      exact .inl ⟨_, ρ', val_hit e, by simp [forL, e1]⟩
    · obtain ⟨ρ', e1, hi'⟩ := h2 e
      rw [val_miss e]
      have st : forL f [] ((p :: l).map (·.2)) ρ h = forL f [] (l.map (·.2)) ρ' h := by simp [forL, e1]
      rw [st]
      exact find_loop K ret inv hi' fun q hq => hf q (List.mem_cons_of_mem _ hq)
end Rg
namespace Sh
open PySem Rg
section
variable {pg : Pg}
/-- rows by whole numbers -/
def IR (n : Nat) (d : Dc) : Prop := ∀ p ∈ d, ∃ (j : Int) (r : List PV), p = (.inl j, .tup (.int j :: r)) ∧ Pn n p.2
theorem IR.sort {n : Nat} {d : Dc} (h : IR n d) : IR n (dsort d) := fun p hp => h p (mem_dsort.mp hp)
theorem IR.pl {n : Nat} {d : Dc} (h : IR n d) : ∀ v ∈ d.map (·.2), Pn n v := fun v hv => by
  obtain ⟨p, hp, rfl⟩ := List.mem_map.mp hv
  obtain ⟨j, r, e, o⟩ := h p hp
  exact o
/-- rows name, number -/
def SR (d : Dc) : Prop := ∀ p ∈ d, ∃ (s : Str) (x : Int), p = (.inr s, .tup [.str s, .int x])
theorem SR.sort {d : Dc} (h : SR d) : SR (dsort d) := fun p hp => h p (mem_dsort.mp hp)
theorem SR.pl {d : Dc} (h : SR d) : ∀ v ∈ d.map (·.2), Pn 1 v := fun v hv => by
  obtain ⟨p, hp, rfl⟩ := List.mem_map.mp hv
  obtain ⟨s, x, rfl⟩ := h p hp
  exact ⟨by simp [plV_tup], by simp [dep, deps]⟩
end
end Sh

namespace Rg
open PySem
end Rg
namespace Sh
open PySem Rg
section
variable {pg : Pg}
def b_number : Ss :=
  (.cons (.asg (.name 1) (.bin .Mod (.bin .FloorDiv (.var 0) (.kint 3)) (.bin .Pow (.kint 10) (.kint 58)))) <|
  .cons (.iff (.cmp .Eq (.bin .Mod (.var 0) (.kint 3)) (.kint 0))
    (.cons (.ret (.var 1)) <|
    .nil)
    (.nil)) <|
  .cons (.iff (.cmp .Eq (.bin .Mod (.var 0) (.kint 3)) (.kint 1))
    (.cons (.ret (.neg (.var 1))) <|
    .nil)
    (.nil)) <|
  .cons (.ret (.bin .Sub (.bin .Mod (.bin .FloorDiv (.var 0) (.kint 3)) (.kint 7)) (.kint 3))) <|
  .nil)
theorem number (hf : pg.fn "_law_number" = some ⟨"_law_number", 1, 2, b_number⟩) (k : Nat) (n : Int) : ∃ x : Int, ∀ h, callPl (run pg (k + 1)) "_law_number" [.int n] h = .ok (.int x, h) := by
  have go : ∃ v h', run pg (k + 1) "_law_number" [.int n] [] = .ok (v, h') ∧ ∃ x : Int, v = .int x := by
    refine run_rets (d := ⟨"_law_number", 1, 2, b_number⟩) hf rfl ?_
    refine rets_step (by simp [binop]; first | exact ⟨rfl, rfl⟩ | rfl) ?_
    generalize n / 3 % 10000000000000000000000000000000000000000000000000000000000 = z
    by_cases c0 : n % 3 = 0
    · exact rets_end (by simp [binop, c0, evSs_cons]; first | exact ⟨rfl, rfl, rfl⟩ | exact ⟨rfl, rfl⟩ | rfl) ⟨_, rfl⟩
    · refine rets_step (by simp [binop, c0]; first | exact ⟨rfl, rfl⟩ | rfl) ?_
      by_cases c1 : n % 3 = 1
      · exact rets_end (by simp [binop, c1, evSs_cons]; first | exact ⟨rfl, rfl, rfl⟩ | exact ⟨rfl, rfl⟩ | rfl) ⟨_, rfl⟩
      · refine rets_step (by simp [binop, c1]; first | exact ⟨rfl, rfl⟩ | rfl) ?_
        exact rets_end (by simp [binop]; first | exact ⟨rfl, rfl, rfl⟩ | exact ⟨rfl, rfl⟩ | rfl) ⟨_, rfl⟩
  obtain ⟨v, h', e, x, rfl⟩ := go
  exact ⟨x, fun h => callP_val e⟩
end
end Sh

namespace Rg
open PySem
end Rg
namespace Sh
open PySem Rg
section
variable {pg : Pg}
/-- what a dict of whole numbers has at a name -/
def iAt (d : Dc) (s : Str) : Int := match valP d (.inr s) with | some (.int x) => x | _ => 0
def rowI (p : L2.Key × PV) : Option (L2.Key × PV) := match p with
  | (.inr s, .int x) => if x = 0 then none else some (.inr s, .tup [.str s, .int x])
  | _ => none
/-- the cells that a dict asks for -/
def cw (d : Dc) : Dc := d.filterMap rowI
theorem rowI_some {p q : L2.Key × PV} (h : rowI p = some q) : ∃ s x, x ≠ 0 ∧ p = (.inr s, .int x) ∧ q = (.inr s, .tup [.str s, .int x]) := by
  unfold rowI at h
  split at h
  · rename_i s x
    by_cases hx : x = 0
    · rw [if_pos hx] at h; cases h
    · rw [if_neg hx] at h; cases h; exact ⟨s, x, hx, rfl, rfl⟩
  · cases h
theorem mem_cw {d : Dc} {q : L2.Key × PV} : q ∈ cw d ↔ ∃ s x, x ≠ 0 ∧ ((Sum.inr s : L2.Key), PV.int x) ∈ d ∧ q = (.inr s, .tup [.str s, .int x]) := by
  unfold cw
  rw [List.mem_filterMap]
  constructor
  · rintro ⟨p, hp, e⟩
    obtain ⟨s, x, hx, rfl, rfl⟩ := rowI_some e
    exact ⟨s, x, hx, hp, rfl⟩
  · rintro ⟨s, x, hx, hp, rfl⟩
    exact ⟨_, hp, by simp [rowI, hx]⟩
theorem cw_sr (d : Dc) : SR (cw d) := fun p hp => by
  obtain ⟨s, x, _, _, rfl⟩ := mem_cw.mp hp
  exact ⟨s, x, rfl⟩
theorem cw_len (d : Dc) : (cw d).length ≤ d.length := List.length_filterMap_le _ _
/-- the cells as rows -/
def cells (d : Dc) : PV := .tup ((dsort (cw d)).map (·.2))
theorem cells_pn {d : Dc} (hl : d.length ≤ 900) : Pn 2 (cells d) := Pn.tup (cw_sr d).sort.pl (by have := dsort_len (cw d); have := cw_len d; simp; omega)
/-- nobody, or an asker -/
def Tn (t : PV) : Prop := t = .non ∨ ∃ i, t = .int i
theorem Tn.pn {t : PV} (h : Tn t) : Pn 0 t := by
  rcases h with rfl | ⟨i, rfl⟩
  · exact ⟨rfl, by simp [dep]⟩
  · exact ⟨rfl, by simp [dep]⟩
end
end Sh

namespace Rg
open PySem
theorem str_inj {a b : String} (h : Str.ofString a = Str.ofString b) : a = b := by
  rw [Str.ofString_eq_toList, Str.ofString_eq_toList] at h
  injection h with h
  have h2 := List.toArray_inj h
  have : ∀ l m : List Char, l.map Char.toNat = m.map Char.toNat → l = m := by
    intro l
    induction l with
    | nil => intro m e; cases m with
      | nil => rfl
      | cons _ _ => simp at e
    | cons x l ih =>
      intro m e
      cases m with
      | nil => simp at e
      | cons y m =>
        simp only [List.map_cons, List.cons.injEq] at e
        rw [ih m e.2]
        have : x = y := Char.ext (UInt32.toNat_inj.mp e.1)
        rw [this]
  exact String.toList_inj.mp (this _ _ h2)
@[simp] theorem str_lit {a b : String} : (Str.ofString a == Str.ofString b) = decide (a = b) := by
  by_cases h : a = b
  · subst h; simp
  · have : ¬ Str.ofString a = Str.ofString b := fun e => h (str_inj e)
    simp [h, this]
end Rg
namespace Sh
open PySem Rg
section
variable {pg : Pg}
/-- a slate -/
def SL (d : Dc) (D : PV) (f : Int) (t s : PV) : PV := .tup [cells d, D, .tup [.int f, t], s]
variable {d : Dc} {D t s : PV} {f : Int}
end
end Sh

namespace Rg
open PySem
theorem rng_mem {n : Nat} {lo : Int} {x : PV} (hx : x ∈ rngP n lo) : ∃ i : Nat, i < n ∧ x = .int (lo + i) := by
  obtain ⟨i, hi, e⟩ := List.mem_iff_getElem.mp hx
  obtain ⟨h1, h2⟩ := rngP_get n lo i x (by rw [List.getElem?_eq_getElem hi, e])
  exact ⟨i, h1, h2⟩
theorem b_add {a b : Int} {h : MH} : binop .Add (.int a) (.int b) h = .ok (.int (a + b)) := rfl
theorem b_mod {a b : Int} {h : MH} (hb : 0 < b := by decide) : binop .Mod (.int a) (.int b) h = .ok (.int (a % b)) := by simp only [binop, if_pos hb]
end Rg
namespace Sh
open PySem Rg
theorem SL_pn {d : Dc} {D t s : PV} {f : Int} {n : Nat} (hl : d.length ≤ 900) (oD : Pn n D) (ot : Tn t) (os : Pn n s) (hn : 2 ≤ n) : Pn (n + 1) (SL d D f t s) := Pn.tup (fun v hv => by
    simp only [List.mem_cons, List.not_mem_nil, or_false] at hv
    rcases hv with rfl | rfl | rfl | rfl
    · exact (cells_pn hl).mono hn
    · exact oD
    · exact Pn.mono (n := 1) (Pn.tup (fun v hv => by
        simp only [List.mem_cons, List.not_mem_nil, or_false] at hv
        rcases hv with rfl | rfl
        · exact ⟨rfl, by simp [dep]⟩
        · exact ot.pn) (by simp)) (by omega)
    · exact os) (by simp)
theorem pair_pn {a b : PV} {n : Nat} (ha : Pn n a) (hb : Pn n b) : Pn (n + 1) (.tup [a, b]) := Pn.tup (fun v hv => by
    simp only [List.mem_cons, List.not_mem_nil, or_false] at hv
    rcases hv with rfl | rfl <;> assumption) (by simp)
theorem pn_int {i : Int} {n : Nat} : Pn n (.int i) := ⟨rfl, by simp [dep]⟩
theorem pn_str {i : Str} {n : Nat} : Pn n (.str i) := ⟨rfl, by simp [dep]⟩
theorem pn_non {n : Nat} : Pn n .non := ⟨rfl, by simp [dep]⟩
end Sh

namespace Rg
open PySem
end Rg
namespace Sh
open PySem Rg
section
variable {pg : Pg}
def rows (e : Dc) : PV := .tup ((dsort e).map (·.2))
variable {d e : Dc} {D t s : PV} {f : Int}
end
end Sh

namespace Rg
open PySem
mutual
theorem plV_ok : ∀ {v : PV}, plV v = true → okV v = true
  | .non, _ => rfl
  | .int _, _ => rfl
  | .str _, _ => rfl
  | .tup l, h => by simp only [plV, Bool.and_eq_true] at h; simp only [okV, Bool.and_eq_true]; exact ⟨h.1, plVs_ok h.2⟩
  | .bl _, h => by simp [plV] at h
  | .lst _, h => by simp [plV] at h
  | .ref _, h => by simp [plV] at h
theorem plVs_ok : ∀ {v : List PV}, plVs v = true → okVs v = true
  | [], _ => rfl
  | v :: r, h => by simp only [plVs, Bool.and_eq_true] at h; simp only [okVs, plV_ok h.1, plVs_ok h.2, Bool.and_self]
end
theorem Pn.ok {n : Nat} {v : PV} (h : Pn n v) : Ok n v := ⟨plV_ok h.1, h.2⟩
/-- pairs of whole numbers, by the first, then by the second -/
def lt2 (a b c d : Int) : Bool := decide (a < c ∨ (a = c ∧ b < d))
def pr2 (a b : Int) : PV := .tup [.int a, .int b]
theorem cmp_Gt2 {a b c d : Int} {h : MH} : cmpop .Gt (pr2 a b) (pr2 c d) h = .ok (lt2 c d a b) := by
  have e : cmpop .Gt (pr2 a b) (pr2 c d) h = .ok (lexC (fun a b => decide (b < a)) (fun a b => decide (b < a)) [a, b] [c, d]) := rfl
  rw [e]
  simp only [lexC, lt2]
  congr 1
  by_cases h1 : a = c
  · subst h1
    by_cases h2 : b = d
    · subst h2; simp
    · simp [h2]
  · have h3 : ¬ c = a := fun e => h1 e.symm
    simp [h1, h3]
theorem cmp_GtE2 {a b c d : Int} {h : MH} : cmpop .GtE (pr2 a b) (pr2 c d) h = .ok (!lt2 a b c d) := by
  have e : cmpop .GtE (pr2 a b) (pr2 c d) h = .ok (lexC (fun a b => decide (b ≤ a)) (fun a b => decide (b ≤ a)) [a, b] [c, d]) := rfl
  rw [e]
  simp only [lexC, lt2]
  congr 1
  rw [← decide_not, Bool.eq_iff_iff]
  by_cases h1 : a = c
  · subst h1
    by_cases h2 : b = d
    · subst h2; simp
    · simp [h2]
  · simp [h1]
end Rg
namespace Sh
open PySem Rg
section
variable {pg : Pg}
theorem pr2_pn {a b : Int} {n : Nat} : Pn (n + 1) (pr2 a b) := pair_pn pn_int pn_int
theorem pr2_no {a b : Int} : noRef (pr2 a b) = true := rfl
def b_page_of : Ss :=
  (.cons (.forr (.name 2) (.seq (.var 0))
    (.cons (.iff (.cmp .Eq (.idx (.var 2) (.kint 0)) (.var 1))
      (.cons (.ret (.tup (.cons (.idx (.var 2) (.kint 1)) (.cons (.idx (.var 2) (.kint 2)) (.cons (.idx (.var 2) (.kint 3)) .nil))))) <|
      .nil)
      (.nil)) <|
    .nil)) <|
  .cons (.ret (.tup (.cons (.glb "NOUGHT") (.cons (.glb "NOUGHT") (.cons .non .nil))))) <|
  .nil)
def b_answer_to : Ss :=
  (.cons (.ret (.tup (.cons (.var 1) (.cons (.idx (.var 0) (.kint 2)) (.cons (.idx (.var 0) (.kint 1)) (.cons (.idx (.var 0) (.kint 3)) (.cons (.idx (.var 0) (.kint 4)) (.cons (.var 2) .nil)))))))) <|
  .nil)
def b_with_page : Ss :=
  (.cons (.asg (.name 5) (.comp false (.var 7) (.name 7) (.seq (.var 0)) (.cons (.cmp .Lt (.idx (.var 7) (.kint 0)) (.var 1)) .nil) [("row", 7)])) <|
  .cons (.asg (.name 6) (.comp false (.var 7) (.name 7) (.seq (.var 0)) (.cons (.cmp .Gt (.idx (.var 7) (.kint 0)) (.var 1)) .nil) [("row", 7)])) <|
  .cons (.ret (.blt .tuple (.cons (.bin .Add (.bin .Add (.var 5) (.lst (.cons (.tup (.cons (.var 1) (.cons (.var 2) (.cons (.var 3) (.cons (.var 4) .nil))))) .nil))) (.var 6)) .nil))) <|
  .nil)
def b_heard : Ss :=
  (.cons (.asg (.name 2) (.idx (.var 1) (.kint 3))) <|
  .cons (.asg (.name 3) (.idx (.var 1) (.kint 4))) <|
  .cons (.asg (.tup3 (.name 4) (.name 5) (.name 6)) (.callP "page_of" (.cons (.var 0) (.cons (.var 2) .nil)))) <|
  .cons (.iff (.and (.cons (.cmp .Eq (.idx (.var 1) (.kint 0)) (.kstr "ask")) (.cons (.cmp .Gt (.var 3) (.var 4)) .nil)))
    (.cons (.ret (.tup (.cons (.callP "with_page" (.cons (.var 0) (.cons (.var 2) (.cons (.var 3) (.cons (.var 5) (.cons (.var 6) .nil)))))) (.cons (.callP "answer_to" (.cons (.var 1) (.cons (.kstr "grant") (.cons (.tup (.cons (.var 5) (.cons (.var 6) .nil))) .nil)))) .nil)))) <|
    .nil)
    (.nil)) <|
  .cons (.iff (.and (.cons (.cmp .Eq (.idx (.var 1) (.kint 0)) (.kstr "tell")) (.cons (.cmp .GtE (.var 3) (.var 4)) .nil)))
    (.cons (.ret (.tup (.cons (.callP "with_page" (.cons (.var 0) (.cons (.var 2) (.cons (.var 3) (.cons (.var 3) (.cons (.idx (.idx (.var 1) (.kint 5)) (.kint 3)) .nil)))))) (.cons (.callP "answer_to" (.cons (.var 1) (.cons (.kstr "kept") (.cons (.tup .nil) .nil)))) .nil)))) <|
    .nil)
    (.nil)) <|
  .cons (.ret (.tup (.cons (.var 0) (.cons (.callP "answer_to" (.cons (.var 1) (.cons (.kstr "late") (.cons (.tup (.cons (.var 4) .nil)) .nil)))) .nil)))) <|
  .nil)
structure Bk (pg : Pg) : Prop where
  po : pg.fn "page_of" = some ⟨"page_of", 2, 3, b_page_of⟩
  an : pg.fn "answer_to" = some ⟨"answer_to", 3, 3, b_answer_to⟩
  wp : pg.fn "with_page" = some ⟨"with_page", 5, 8, b_with_page⟩
  hd : pg.fn "heard" = some ⟨"heard", 2, 7, b_heard⟩
  ng : pg.gl "NOUGHT" = some (pr2 0 0)
/-- a page's row -/
def prow (j p q a b : Int) (s : PV) : PV := .tup [.int j, pr2 p q, pr2 a b, s]
def BR (B : Dc) : Prop := ∀ x ∈ B, ∃ (j p q a b : Int) (s : PV), x = ((Sum.inl j : L2.Key), prow j p q a b s) ∧ Pn 5 s
theorem prow_pn {j p q a b : Int} {s : PV} (o : Pn 5 s) : Pn 6 (prow j p q a b s) := Pn.tup (fun v hv => by
    simp only [List.mem_cons, List.not_mem_nil, or_false] at hv
    rcases hv with rfl | rfl | rfl | rfl
    · exact pn_int
    · exact pr2_pn
    · exact pr2_pn
    · exact o) (by simp)
theorem BR.nil : BR [] := fun p hp => by simp at hp
theorem BR.put {B : Dc} (h : BR B) {j p q a b : Int} {s : PV} (o : Pn 5 s) : BR (putP B (.inl j) (prow j p q a b s)) := fun x hx => by
  rcases mem_put.mp hx with rfl | ⟨_, hx⟩
  · exact ⟨j, p, q, a, b, s, rfl, o⟩
  · exact h x hx
theorem BR.ir {B : Dc} (h : BR B) : IR 6 B := fun x hx => by
  obtain ⟨j, p, q, a, b, s, rfl, o⟩ := h x hx
  exact ⟨j, _, rfl, prow_pn o⟩
/-- a page: promised, kept, slate -/
structure Pge where
  p : Int
  q : Int
  a : Int
  b : Int
  s : PV
def pge (B : Dc) (e : Int) : Pge := match valP B (.inl e) with
  | some (.tup [_, .tup [.int p, .int q], .tup [.int a, .int b], s]) => ⟨p, q, a, b, s⟩
  | _ => ⟨0, 0, 0, 0, .non⟩
theorem BR.s_pn {B : Dc} (h : BR B) (e : Int) : Pn 5 (pge B e).s := by
  unfold pge
  cases hv : valP B (.inl e) with
  | none => exact pn_non
  | some v =>
    obtain ⟨j, p, q, a, b, s, z, o⟩ := h _ (val_mem hv)
    injection z with z1 z2
    subst z2
    exact o
/-- the row that is found -/
theorem BR.val {B : Dc} (h : BR B) (e : Int) : valP B (.inl e) = none ∧ pge B e = ⟨0, 0, 0, 0, .non⟩ ∨ valP B (.inl e) = some (prow e (pge B e).p (pge B e).q (pge B e).a (pge B e).b (pge B e).s) := by
  unfold pge
  cases hv : valP B (.inl e) with
  | none => exact .inl ⟨rfl, rfl⟩
  | some v =>
    obtain ⟨j, p, q, a, b, s, z, o⟩ := h _ (val_mem hv)
    injection z with z1 z2
    injection z1 with z1
    subst z1; subst z2
    exact .inr rfl
def pg3 (B : Dc) (e : Int) : PV := .tup [pr2 (pge B e).p (pge B e).q, pr2 (pge B e).a (pge B e).b, (pge B e).s]
theorem pg3_no {B : Dc} (h : BR B) (e : Int) : noRef (pg3 B e) = true := by simp [pg3, pr2_no, (h.s_pn e).no]
theorem page_of (G : Bk pg) (k : Nat) {B : Dc} (hr : BR B) (nd : ND B) (hl : B.length ≤ 900) (e : Int) (h : MH) : callPl (run pg (k + 1)) "page_of" [rows B, .int e] h = .ok (pg3 B e, h) := by
  have hs : BR (dsort B) := fun p hp => hr p (mem_dsort.mp hp)
  have n0 : noRef (rows B) = true := (Pn.tup hr.ir.sort.pl (by have := dsort_len B; simp; omega)).no
  have g' := G.ng
  have go : ∃ h', run pg (k + 1) "page_of" [rows B, .int e] [] = .ok (pg3 B e, h') := by
    rcases find_loop (f := fbody (run pg k) pg.gl (.name 2) (.cons (.iff (.cmp .Eq (.idx (.var 2) (.kint 0)) (.var 1)) (.cons (.ret (.tup (.cons (.idx (.var 2) (.kint 1)) (.cons (.idx (.var 2) (.kint 2)) (.cons (.idx (.var 2) (.kint 3)) .nil))))) .nil) .nil) .nil)) (h := []) (.inl e) (fun v => match v with | .tup [_, x, y, z] => .tup [x, y, z] | _ => .non) (fun ρ => ∃ x, ρ = [some (rows B), some (.int e), x]) (l := dsort B) (ρ := [some (rows B), some (.int e), none]) ⟨none, rfl⟩ (by
        rintro p hp ρ ⟨x, rfl⟩
        obtain ⟨j, p, q, a, b, s, rfl, o⟩ := hs p hp
        refine ⟨fun z => ?_, fun z => ?_⟩
        · injection z with z
          subst z
          exact ⟨_, by simp [fbody, evSs_cons, prow]; rfl⟩
        · have : ¬ j = e := fun y => z (by rw [y])
          exact ⟨_, by simp [fbody, evSs_cons, prow, this]; rfl, _, rfl⟩) with ⟨v, ρ, h1, h2⟩ | ⟨h1, ρ, h2, x, rfl⟩
    · rw [valP_sort nd] at h1
      rcases hr.val e with ⟨h3, _⟩ | h3
      · rw [h3] at h1; cases h1
      · rw [h3] at h1
        cases h1
        refine ⟨[], run_ret G.po rfl (ρ := ρ) ?_⟩
        have rw1 : rows B = .tup ((dsort B).map (·.2)) := rfl
        simp only [b_page_of, evSs_cons, evS_forr]
        simp [rw1] at h2 ⊢
        simp [h2, prow, pg3]
    · rw [valP_sort nd] at h1
      rcases hr.val e with ⟨_, h3⟩ | h3
      · refine ⟨[], run_ret G.po rfl (ρ := [some (rows B), some (.int e), x]) ?_⟩
        have rw1 : rows B = .tup ((dsort B).map (·.2)) := rfl
        simp only [b_page_of, evSs_cons, evS_forr]
        simp [rw1] at h2 ⊢
        simp [h2, pg3, h3, g', evSs_cons]
      · rw [h3] at h1; cases h1
  obtain ⟨h', e'⟩ := go
  exact callP_val e' (by simp [n0]) (pg3_no hr e)
theorem with_page (G : Bk pg) (k : Nat) (e : Int) {B : Dc} (hr : BR B) (nd : ND B) (hl : B.length ≤ 900) (p q a b : Int) {s : PV} (o : Pn 5 s) (h : MH) :
    callPl (run pg (k + 1)) "with_page" [rows B, .int e, pr2 p q, pr2 a b, s] h = .ok (rows (putP B (.inl e) (prow e p q a b s)), h) := by
  have hs : BR (dsort B) := fun p hp => hr p (mem_dsort.mp hp)
  have b0 : (10000 : Nat) ≤ big := by decide
  have ll := dsort_len B
  have rw1 : rows B = .tup ((dsort B).map (·.2)) := rfl
  have n0 : noRef (rows B) = true := (Pn.tup hr.ir.sort.pl (by simp; omega)).no
  have n1 : noRef (rows (putP B (.inl e) (prow e p q a b s))) = true := (Pn.tup (hr.put o).ir.sort.pl (by have := dsort_len (putP B (.inl e) (prow e p q a b s)); have := put_len (d := B) (k := .inl e) (v := prow e p q a b s); simp; omega)).no
  have c1 : compL (cbody (run pg k) pg.gl [some (rows B), some (.int e), some (pr2 p q), some (pr2 a b), some s, none, none, none] [("row", 7)] (.name 7) (.cons (.cmp .Lt (.idx (.var 7) (.kint 0)) (.var 1)) .nil) (.var 7)) [] ((dsort B).map (·.2)) [] [] = .ok (((dsort B).filter (fun p => keyLt p.1 (.inl e))).map (·.2), []) := by
    refine compL_dc _ (fun p hp => ?_) (by simp; omega)
    obtain ⟨j, _, _, _, _, _, rfl, _⟩ := hs p hp
    simp only [keyLt, prow]
    by_cases hj : j < e <;> simp [cbody, wipeP, hj]
  have c2 : ∀ y, compL (cbody (run pg k) pg.gl [some (rows B), some (.int e), some (pr2 p q), some (pr2 a b), some s, y, none, none] [("row", 7)] (.name 7) (.cons (.cmp .Gt (.idx (.var 7) (.kint 0)) (.var 1)) .nil) (.var 7)) [] ((dsort B).map (·.2)) [] [] = .ok (((dsort B).filter (fun p => keyLt (.inl e) p.1)).map (·.2), []) := fun y => by
    refine compL_dc _ (fun p hp => ?_) (by simp; omega)
    obtain ⟨j, _, _, _, _, _, rfl, _⟩ := hs p hp
    simp only [keyLt, prow]
    by_cases hj : e < j <;> simp [cbody, wipeP, hj]
  have f1 := List.length_filter_le (fun p => keyLt p.1 (Sum.inl e)) (dsort B)
  have f2 := List.length_filter_le (fun p => keyLt (Sum.inl e) p.1) (dsort B)
  have g1 : ((dsort B).filter (fun p => keyLt p.1 (Sum.inl e))).length + 1 ≤ big := by omega
  have g2 : ((dsort B).filter (fun p => keyLt p.1 (Sum.inl e))).length + 1 + ((dsort B).filter (fun p => keyLt (Sum.inl e) p.1)).length ≤ big := by omega
  have rw2 : rows (putP B (.inl e) (prow e p q a b s)) = .tup (((dsort B).filter (fun p => keyLt p.1 (.inl e))).map (·.2) ++ [prow e p q a b s] ++ ((dsort B).filter (fun p => keyLt (.inl e) p.1)).map (·.2)) := by
    unfold rows
    rw [dsort_put nd]
    simp
  have res : run pg (k + 1) "with_page" [rows B, .int e, pr2 p q, pr2 a b, s] [] = .ok (rows (putP B (.inl e) (prow e p q a b s)), []) := by
    rw [rw2]
    refine run_ret G.wp rfl (ρ := [some (rows B), some (.int e), some (pr2 p q), some (pr2 a b), some s, some (.lst (((dsort B).filter (fun p => keyLt p.1 (.inl e))).map (·.2))), some (.lst (((dsort B).filter (fun p => keyLt (.inl e) p.1)).map (·.2))), none]) ?_
    rw [rw1] at c1 c2 ⊢
    refine evSs_step (by simp [evE_comp, c1]; first | exact ⟨rfl, rfl⟩ | rfl) ?_
    refine evSs_step (by simp [evE_comp, c2]; first | exact ⟨rfl, rfl⟩ | rfl) ?_
    simp [evSs_cons, binop, bltop, sview, g1, g2, prow]
  exact callP_val res (by simp [n0, pr2_no, o.no]) n1
theorem answer_to (G : Bk pg) (k : Nat) {a b c d e f w l : PV} (n : noRefs [a, b, c, d, e, f] = true) (hw : noRef w = true) (hl : noRef l = true) (h : MH) : callPl (run pg (k + 1)) "answer_to" [.tup [a, b, c, d, e, f], w, l] h = .ok (.tup [w, c, b, d, e, l], h) := by
  simp only [noRefs_cons, noRefs_nil, Bool.and_true, Bool.and_eq_true] at n
  refine callP_val (h' := []) (run_ret G.an rfl (ρ := [some (.tup [a, b, c, d, e, f]), some w, some l]) ?_) (by simp [n, hw, hl]) (by simp [n, hw, hl])
  simp [b_answer_to, evSs_cons]
/-- a letter to a keeper -/
def ltr (w : String) (A K e r a : Int) (l : PV) : PV := .tup [.str (Str.ofString w), .int A, .int K, .int e, pr2 r a, l]
theorem rowsB_no {B : Dc} (hr : BR B) (hl : B.length ≤ 1000) : noRef (rows B) = true := (Pn.tup hr.ir.sort.pl (by have := dsort_len B; simp; omega)).no
theorem heard_ask (G : Bk pg) (k : Nat) {B : Dc} (hr : BR B) (nd : ND B) (hl : B.length ≤ 800) (A K e r a : Int) {l : PV} (nl : noRef l = true) (c : lt2 (pge B e).p (pge B e).q r a = true) (h : MH) :
    callPl (run pg (k + 2)) "heard" [rows B, ltr "ask" A K e r a l] h = .ok (.tup [rows (putP B (.inl e) (prow e r a (pge B e).a (pge B e).b (pge B e).s)), .tup [.str (Str.ofString "grant"), .int K, .int A, .int e, pr2 r a, .tup [pr2 (pge B e).a (pge B e).b, (pge B e).s]]], h) := by
  have e1 := fun h => page_of G k hr nd (by omega) e h
  have e2 := fun h => with_page G k e hr nd (by omega) r a (pge B e).a (pge B e).b (hr.s_pn e) h
  have n0 := rowsB_no hr (by omega)
  have n1 := rowsB_no (hr.put (j := e) (p := r) (q := a) (a := (pge B e).a) (b := (pge B e).b) (hr.s_pn e)) (by have := put_len (d := B) (k := .inl e) (v := prow e r a (pge B e).a (pge B e).b (pge B e).s); omega)
  have ns := (hr.s_pn e).no
  have e3 := fun h => answer_to G k (a := .str (Str.ofString "ask")) (b := .int A) (c := .int K) (d := .int e) (e := pr2 r a) (f := l) (w := .str (Str.ofString "grant")) (l := .tup [pr2 (pge B e).a (pge B e).b, (pge B e).s]) (by simp [pr2_no, nl]) rfl (by simp [pr2_no, ns]) h
  unfold pg3 at e1
  generalize rows (putP B (.inl e) (prow e r a (pge B e).a (pge B e).b (pge B e).s)) = RB at *
  generalize rows B = R at *
  generalize hP : pr2 (pge B e).p (pge B e).q = P at *
  generalize hK : pr2 (pge B e).a (pge B e).b = Kp at *
  generalize hs : pr2 r a = st at *
  have cg : ∀ h, cmpop .Gt st P h = .ok true := fun h => by rw [← hs, ← hP, cmp_Gt2, c]
  have nK : noRef Kp = true := by rw [← hK]; rfl
  have nS : noRef st = true := by rw [← hs]; rfl
  generalize (pge B e).s = s at *
  clear c hP hK
  have go : ∃ v h', run pg (k + 2) "heard" [R, ltr "ask" A K e r a l] [] = .ok (v, h') ∧ v = .tup [RB, .tup [.str (Str.ofString "grant"), .int K, .int A, .int e, st, .tup [Kp, s]]] := by
    unfold ltr
    rw [hs]
    refine run_rets (d := ⟨"heard", 2, 7, b_heard⟩) G.hd rfl ?_
    refine rets_step (by simp; first | exact ⟨rfl, rfl⟩ | rfl) ?_
    refine rets_step (by simp; first | exact ⟨rfl, rfl⟩ | rfl) ?_
    refine rets_step (by simp [e1, bindT]; first | exact ⟨rfl, rfl⟩ | rfl) ?_
    exact rets_end (x := .tup [RB, .tup [.str (Str.ofString "grant"), .int K, .int A, .int e, st, .tup [Kp, s]]]) (by simp [cg, evSs_cons, e2, e3]; first | exact ⟨rfl, rfl⟩ | rfl) rfl
  obtain ⟨v, h', e', rfl⟩ := go
  exact callP_val e' (by simp [ltr, n0, hs, nS, nl]) (by simp [n1, nS, nK, ns])
theorem heard_tell (G : Bk pg) (k : Nat) {B : Dc} (hr : BR B) (nd : ND B) (hl : B.length ≤ 800) (A K e r a : Int) {l0 l1 l2 s : PV} (nl : noRefs [l0, l1, l2] = true) (os : Pn 5 s) (c : lt2 r a (pge B e).p (pge B e).q = false) (h : MH) :
    callPl (run pg (k + 2)) "heard" [rows B, ltr "tell" A K e r a (.tup [l0, l1, l2, s])] h = .ok (.tup [rows (putP B (.inl e) (prow e r a r a s)), .tup [.str (Str.ofString "kept"), .int K, .int A, .int e, pr2 r a, .tup []]], h) := by
  have e1 := fun h => page_of G k hr nd (by omega) e h
  have e2 := fun h => with_page G k e hr nd (by omega) r a r a os h
  have n0 := rowsB_no hr (by omega)
  have n1 := rowsB_no (hr.put (j := e) (p := r) (q := a) (a := r) (b := a) os) (by have := put_len (d := B) (k := .inl e) (v := prow e r a r a s); omega)
  have ns := os.no
  simp only [noRefs_cons, noRefs_nil, Bool.and_true, Bool.and_eq_true] at nl
  have nll : noRef (.tup [l0, l1, l2, s]) = true := by simp [nl, ns]
  have e3 := fun h => answer_to G k (a := .str (Str.ofString "tell")) (b := .int A) (c := .int K) (d := .int e) (e := pr2 r a) (f := .tup [l0, l1, l2, s]) (w := .str (Str.ofString "kept")) (l := .tup []) (by simp [pr2_no, nl, ns]) rfl rfl h
  unfold pg3 at e1
  generalize rows (putP B (.inl e) (prow e r a r a s)) = RB at *
  generalize rows B = R at *
  generalize hP : pr2 (pge B e).p (pge B e).q = P at *
  generalize hK : pr2 (pge B e).a (pge B e).b = Kp at *
  generalize hs : pr2 r a = st at *
  have cg : ∀ h, cmpop .GtE st P h = .ok true := fun h => by rw [← hs, ← hP, cmp_GtE2, c]; rfl
  have nS : noRef st = true := by rw [← hs]; rfl
  clear c hP hK
  have go : ∃ v h', run pg (k + 2) "heard" [R, ltr "tell" A K e r a (.tup [l0, l1, l2, s])] [] = .ok (v, h') ∧ v = .tup [RB, .tup [.str (Str.ofString "kept"), .int K, .int A, .int e, st, .tup []]] := by
    unfold ltr
    rw [hs]
    refine run_rets (d := ⟨"heard", 2, 7, b_heard⟩) G.hd rfl ?_
    refine rets_step (by simp; first | exact ⟨rfl, rfl⟩ | rfl) ?_
    refine rets_step (by simp; first | exact ⟨rfl, rfl⟩ | rfl) ?_
    refine rets_step (by simp [e1, bindT]; first | exact ⟨rfl, rfl⟩ | rfl) ?_
    refine rets_step (by simp [evSs_cons]; first | exact ⟨rfl, rfl⟩ | rfl) ?_
    exact rets_end (x := .tup [RB, .tup [.str (Str.ofString "kept"), .int K, .int A, .int e, st, .tup []]]) (by simp [cg, evSs_cons, e2, e3]; first | exact ⟨rfl, rfl⟩ | rfl) rfl
  obtain ⟨v, h', e', rfl⟩ := go
  exact callP_val e' (by simp [ltr, n0, hs, nS, nl, ns]) (by simp [n1, nS])
theorem heard_late (G : Bk pg) (k : Nat) {B : Dc} (hr : BR B) (nd : ND B) (hl : B.length ≤ 800) {w : String} (A K e r a : Int) {l : PV} (nl : noRef l = true) (c : (w = "ask" ∧ lt2 (pge B e).p (pge B e).q r a = false) ∨ (w = "tell" ∧ lt2 r a (pge B e).p (pge B e).q = true)) (h : MH) :
    callPl (run pg (k + 2)) "heard" [rows B, ltr w A K e r a l] h = .ok (.tup [rows B, .tup [.str (Str.ofString "late"), .int K, .int A, .int e, pr2 r a, .tup [pr2 (pge B e).p (pge B e).q]]], h) := by
  have e1 := fun h => page_of G k hr nd (by omega) e h
  have n0 := rowsB_no hr (by omega)
  have ns := (hr.s_pn e).no
  have e3 := fun h => answer_to G k (a := .str (Str.ofString w)) (b := .int A) (c := .int K) (d := .int e) (e := pr2 r a) (f := l) (w := .str (Str.ofString "late")) (l := .tup [pr2 (pge B e).p (pge B e).q]) (by simp [pr2_no, nl]) rfl rfl h
  unfold pg3 at e1
  generalize rows B = R at *
  generalize hP : pr2 (pge B e).p (pge B e).q = P at *
  generalize hK : pr2 (pge B e).a (pge B e).b = Kp at *
  generalize hs : pr2 r a = st at *
  have cg : w = "ask" → ∀ h, cmpop .Gt st P h = .ok false := fun hw h => by
    rcases c with c | c
    · rw [← hs, ← hP, cmp_Gt2, c.2]
    · rw [hw] at c; exact absurd c.1 (by decide)
  have ct : w = "tell" → ∀ h, cmpop .GtE st P h = .ok false := fun hw h => by
    rcases c with c | c
    · rw [hw] at c; exact absurd c.1 (by decide)
    · rw [← hs, ← hP, cmp_GtE2, c.2]; rfl
  have nP : noRef P = true := by rw [← hP]; rfl
  have nS : noRef st = true := by rw [← hs]; rfl
  have hw : w = "ask" ∨ w = "tell" := by
    rcases c with c | c
    · exact .inl c.1
    · exact .inr c.1
  clear c hP hK
  have go : ∃ v h', run pg (k + 2) "heard" [R, ltr w A K e r a l] [] = .ok (v, h') ∧ v = .tup [R, .tup [.str (Str.ofString "late"), .int K, .int A, .int e, st, .tup [P]]] := by
    unfold ltr
    rw [hs]
    refine run_rets (d := ⟨"heard", 2, 7, b_heard⟩) G.hd rfl ?_
    refine rets_step (by simp; first | exact ⟨rfl, rfl⟩ | rfl) ?_
    refine rets_step (by simp; first | exact ⟨rfl, rfl⟩ | rfl) ?_
    refine rets_step (by simp [e1, bindT]; first | exact ⟨rfl, rfl⟩ | rfl) ?_
    rcases hw with rfl | rfl
    · refine rets_step (by simp [cg rfl]; first | exact ⟨rfl, rfl⟩ | rfl) ?_
      refine rets_step (by simp; first | exact ⟨rfl, rfl⟩ | rfl) ?_
      exact rets_end (x := .tup [R, .tup [.str (Str.ofString "late"), .int K, .int A, .int e, st, .tup [P]]]) (by simp [e3]; first | exact ⟨rfl, rfl⟩ | rfl) rfl
    · refine rets_step (by simp; first | exact ⟨rfl, rfl⟩ | rfl) ?_
      refine rets_step (by simp [ct rfl]; first | exact ⟨rfl, rfl⟩ | rfl) ?_
      exact rets_end (x := .tup [R, .tup [.str (Str.ofString "late"), .int K, .int A, .int e, st, .tup [P]]]) (by simp [e3]; first | exact ⟨rfl, rfl⟩ | rfl) rfl
  obtain ⟨v, h', e', rfl⟩ := go
  exact callP_val e' (by simp [ltr, n0, hs, nS, nl]) (by simp [n0, nS, nP])
end
end Sh

namespace P_k23
open PySem Rg Sh
abbrev pg := D_k23.pg
theorem G : Sh.Bk pg := ⟨rfl, rfl, rfl, rfl, rfl⟩
theorem bd (a b : Int) (h : MH) (h1 : 0 < b := by decide) (h2 : b.natAbs.log2 < 9000 := by decide) : binop .FloorDiv (.int a) (.int b) h = .ok (.int (a / b)) := by simp only [binop, if_pos (And.intro h1 h2)]
theorem slate_ok (k : Nat) (cell : Int) : ∃ v, Pn 5 v ∧ ∀ h, callPl (run pg (k + 2)) "_law_slate" [.int cell] h = .ok (v, h) := by
  obtain ⟨s3, _, e3⟩ := Sh.name (pg := pg) rfl k (cell / 3)
  have r : ∃ v h', run pg (k + 2) "_law_slate" [.int cell] [] = .ok (v, h') ∧ Pn 5 v := by
    refine run_rets (d := ⟨"_law_slate", 1, 4, D_k23.b_law_slate⟩) rfl rfl ?_
    refine rets_step (by simp; first | exact ⟨rfl, rfl⟩ | rfl) ?_
    have last : ∀ c, Pn 3 c → Rets (fun v h' => Pn 5 v) (evSs (run pg (k + 1)) pg.gl (dropS 2 D_k23.b_law_slate) [some (.int cell), some c, none, none] []) := fun c oc => by
      refine rets_step (by simp [binop]; first | exact ⟨rfl, rfl⟩ | rfl) ?_
      refine rets_step (by simp [binop]; first | exact ⟨rfl, rfl⟩ | rfl) ?_
      generalize hq : (if cell / 260 % 3 = 0 then PV.non else if cell / 260 % 3 = 1 then PV.int 0 else PV.int 3) = q
      have oq : Pn 0 q := by rw [← hq]; exact .ite ⟨rfl, by simp [dep]⟩ (.ite ⟨rfl, by simp [dep]⟩ ⟨rfl, by simp [dep]⟩)
      generalize hr : (if cell / 5 % 3 = 0 then PV.non else if cell / 5 % 3 = 1 then PV.str (Str.ofString "over") else PV.tup [PV.tup [PV.int 2, PV.tup [PV.int 0, PV.int 1, PV.int 4]], PV.tup [PV.int 2, PV.tup [PV.int 0, PV.int 1, PV.int 4]]]) = r
      have or : Pn 3 r := by rw [← hr]; exact .ite ⟨rfl, by simp [dep]⟩ (.ite ⟨rfl, by simp [dep]⟩ ⟨by simp [plV_tup], by simp [dep, deps]⟩)
      refine rets_end (x := .tup [c, .tup [.tup [.int (cell / 7 % 6), .int (1 + cell / 11 % 50), .int (cell % 1000000000)]], .tup [.int (cell / 13 % 20), q], r]) (by simp [binop, hr]; first | exact ⟨rfl, rfl⟩ | rfl) ⟨by simp [plV_tup, oc.1, oq.1, or.1], ?_⟩
      have := oc.2; have := oq.2; have := or.2
      simp only [dep, deps]
      omega
    by_cases h3 : 0 < cell % 3
    · refine rets_step (by simp [binop, h3, evSs_cons, e3]; first | exact ⟨rfl, rfl⟩ | rfl) ?_
      exact last _ ⟨by simp [plV_tup], by simp [dep, deps]⟩
    · refine rets_step (by simp [binop, h3, evSs_cons]; first | exact ⟨rfl, rfl⟩ | rfl) ?_
      exact last _ ⟨by simp [plV_tup], by simp [dep, deps]⟩
  obtain ⟨v, h', e, o⟩ := r
  exact ⟨v, o, fun h => callP_val e (by simp) o.no⟩
theorem row_ok (k : Nat) (e cell : Int) : ∃ p q a b s, Pn 5 s ∧ ∀ h, callPl (run pg (k + 3)) "_law_row" [.int e, .int cell] h = .ok (prow e p q a b s, h) := by
  obtain ⟨sl, osl, es⟩ := slate_ok k (cell / 54)
  have r : ∃ v h', run pg (k + 3) "_law_row" [.int e, .int cell] [] = .ok (v, h') ∧ ∃ p q a b s, v = prow e p q a b s ∧ Pn 5 s := by
    refine run_rets (d := ⟨"_law_row", 2, 4, D_k23.b_law_row⟩) rfl rfl ?_
    refine rets_step (by simp [binop]; first | exact ⟨rfl, rfl⟩ | rfl) ?_
    refine rets_step (by simp [binop]; first | exact ⟨rfl, rfl⟩ | rfl) ?_
    by_cases h0 : cell / 18 % 3 = 0
    · refine rets_end (x := prow e (1 + cell % 100000000000000000000) (cell / 3 % 6) 0 0 .non) (by simp [h0, evSs_cons, prow, pr2]; first | exact ⟨rfl, rfl⟩ | rfl) ⟨_, _, _, _, _, rfl, pn_non⟩
    · refine rets_step (by simp [h0]; first | exact ⟨rfl, rfl⟩ | rfl) ?_
      by_cases h1 : cell / 18 % 3 = 1
      · refine rets_end (x := prow e (1 + cell % 100000000000000000000) (cell / 3 % 6) (1 + cell % 100000000000000000000) (cell / 3 % 6) sl) (by simp [h1, evSs_cons, binop, es, prow, pr2]; first | exact ⟨rfl, rfl⟩ | rfl) ⟨_, _, _, _, _, rfl, osl⟩
      · refine rets_step (by simp [h1]; first | exact ⟨rfl, rfl⟩ | rfl) ?_
        have hp : 0 < 1 + cell % 100000000000000000000 := by omega
        refine rets_end (x := prow e (1 + cell % 100000000000000000000) (cell / 3 % 6) (1 + cell / 54 % (1 + cell % 100000000000000000000)) 0 sl) (by simp [binop, es, hp, prow, pr2]; first | exact ⟨rfl, rfl⟩ | rfl) ⟨_, _, _, _, _, rfl, osl⟩
  obtain ⟨v, h', er, p, q, a, b, s, rfl, o⟩ := r
  exact ⟨p, q, a, b, s, o, fun h => callP_val er (by simp) (prow_pn o).no⟩
/-- a book with rising epochs below e -/
def Up (l : Dc) : Prop := l.Pairwise fun a b => keyLt a.1 b.1 = true
theorem Up.nd {l : Dc} (u : Up l) : ND l := by
  unfold ND
  rw [List.Nodup, List.pairwise_map]
  refine u.imp fun {a b} h e => ?_
  have h2 := keyLt_asym _ _ h
  rw [e] at h h2
  rw [h] at h2
  cases h2
theorem Up.sort {l : Dc} (u : Up l) : dsort l = l := dsort_of u.nd u.nd (fun _ => .rfl) (u.imp fun h => lt_le h)
theorem Up.add {l : Dc} (u : Up l) {e : Int} {v : PV} (h : ∀ p ∈ l, ∃ j, p.1 = .inl j ∧ j < e) : Up (l ++ [((Sum.inl e : L2.Key), v)]) := by
  refine List.pairwise_append.mpr ⟨u, List.pairwise_singleton _ _, fun a ha b hb => ?_⟩
  obtain ⟨j, e1, hj⟩ := h a ha
  rw [List.mem_singleton] at hb
  subst hb
  rw [e1]
  simpa [keyLt] using hj
def bbody : Ss := match dropS 2 D_k23.b_law_book with | .cons (.forr _ _ b) _ => b | _ => .nil
theorem mul_no : ∀ ns : List Int, noRef (.lst (ns.map PV.int)) = true := fun ns => by simp
theorem book_run (ns : List Int) : ∃ l : Dc, BR l ∧ Up l ∧ l.length ≤ 3 ∧ ∀ h, callPl (run pg 100) "_law_book" [.lst (ns.map PV.int), .int 2] h = .ok (rows l, h) := by
  have cell : ∀ (j : Nat) h, callPl (run pg 99) "_law_cell_at" [.lst (ns.map PV.int), .int j] h = .ok (.int (cAt ns j), h) := fun j h => Sh.cellP (pg := pg) rfl 98 ns j h
  generalize hS : PV.lst (ns.map PV.int) = S at cell ⊢
  have b0 : (1000 : Nat) < big := by decide
  have c2 : ∀ h, callPl (run pg 99) "_law_cell_at" [S, .int 2] h = .ok (.int (cAt ns 2), h) := fun h => cell 2 h
  obtain ⟨n, hn⟩ : ∃ n : Nat, (n : Int) = cAt ns 2 / 3 % 4 := ⟨(cAt ns 2 / 3 % 4).toNat, by omega⟩
  have hn3 : n ≤ 3 := by omega
  have rg : ∀ x ∈ rngP n 0, ∃ j : Nat, x = PV.int (j : Int) := fun x hx => by
    obtain ⟨i, _, rfl⟩ := rng_mem hx
    exact ⟨i, by rw [Int.zero_add]⟩
  obtain ⟨ρ, h, e, l, e3, x4, rfl, rfl, hb, up, hlt, hln⟩ := forL_ok (lk := []) (f := fbody (run pg 99) pg.gl (.name 4) bbody)
    (fun r ρ h => ∃ (l : Dc) (e3 : Int) (x4 : Option PV), ρ = [some S, some (.int 2), some (.ref 0), some (.int e3), x4] ∧ h = [.lst (l.map (·.2))] ∧ BR l ∧ Up l ∧ (∀ p ∈ l, ∃ j, p.1 = .inl j ∧ j < e3) ∧ l.length + r.length = n ∧ ∀ x ∈ r, ∃ j : Nat, x = PV.int (j : Int))
    (items := rngP n 0) (ρ := [some S, some (.int 2), some (.ref 0), some (.int (cAt ns 2 % 3)), none]) (h := [.lst []])
    ⟨[], _, none, rfl, rfl, BR.nil, List.Pairwise.nil, fun p hp => by simp at hp, by simp [rngP_len], rg⟩ (fun _ _ _ _ => rfl) (by
      rintro x r ρ h ⟨l, e3, x4, rfl, rfl, hb, up, hlt, hln, hr⟩
      obtain ⟨j, rfl⟩ := hr x List.mem_cons_self
      rw [List.length_cons] at hln
      obtain ⟨p, q, a, b, s, os, er⟩ := row_ok 96 e3 (cAt ns (3 + j))
      have cj : ∀ h, callPl (run pg 99) "_law_cell_at" [S, .int (3 + (j : Int))] h = .ok (.int (cAt ns (3 + j)), h) := fun h => by
        have := cell (3 + j) h
        simpa using this
      have hz : l.length < big := by omega
      refine ⟨.nx, _, _, ?_, .inl rfl, l ++ [((Sum.inl e3 : L2.Key), prow e3 p q a b s)], e3 + 1 + cAt ns (3 + j) % 3, some (.int j), rfl, rfl, ?_, up.add hlt, ?_, ?_, fun y hy => hr y (List.mem_cons_of_mem _ hy)⟩
      · unfold fbody
        simp only [bindT_name, bnd_ok, bbody, dropS, D_k23.b_law_book]
        refine evSs_step (ρ' := [some S, some (.int 2), some (.ref 0), some (.int e3), some (.int j)]) (h' := [.lst ((l ++ [((Sum.inl e3 : L2.Key), prow e3 p q a b s)]).map (·.2))]) (by simp [b_add, cj, er, mthTy, mthop, hz, isLs]) ?_
        refine evSs_step (by simp [b_add, cj, b_mod]; first | exact ⟨rfl, rfl⟩ | rfl) ?_
        simp
      · intro x hx
        rcases List.mem_append.mp hx with hx | hx
        · exact hb x hx
        · rw [List.mem_singleton] at hx
          exact ⟨e3, p, q, a, b, s, hx, os⟩
      · intro x hx
        rcases List.mem_append.mp hx with hx | hx
        · obtain ⟨i, h1, h2⟩ := hlt x hx
          exact ⟨i, h1, by omega⟩
        · rw [List.mem_singleton] at hx
          subst hx
          exact ⟨e3, rfl, by omega⟩
      · simp; omega)
  have hl3 : l.length ≤ 3 := by simp at hln; omega
  refine ⟨l, hb, up, hl3, fun h => ?_⟩
  have r0 : noRef (rows l) = true := rowsB_no hb (by omega)
  have rr : rows l = .tup (l.map (·.2)) := by unfold rows; rw [up.sort]
  rw [rr] at r0 ⊢
  refine callP_val (h' := [.lst (l.map (·.2))]) (run_ret (d := ⟨"_law_book", 2, 5, D_k23.b_law_book⟩) rfl rfl (ρ := [some S, some (.int 2), some (.ref 0), some (.int e3), x4]) ?_) (by rw [← hS]; simp) r0
  have rk : rngOk (cAt ns 2 / 3 % 4) = true := by unfold rngOk; rw [Nat.ble_eq]; omega
  have tn : (cAt ns 2 / 3 % 4).toNat = n := by omega
  show evSs (Rg.run pg 99) pg.gl D_k23.b_law_book [some S, some (.int 2), none, none, none] [] = _
  refine evSs_step (by simp; first | exact ⟨rfl, rfl⟩ | rfl) ?_
  refine evSs_step (by simp [c2, b_mod]; first | exact ⟨rfl, rfl⟩ | rfl) ?_
  simp only [bbody, dropS, D_k23.b_law_book] at e
  refine evSs_step (by simp [evS_forr, c2, binop, rk, tn, e]; first | exact ⟨rfl, rfl⟩ | rfl) ?_
  simp [evSs_cons, bltop, sview]
theorem load_ok (c : Int) : ∃ l0 l1 l2 s, noRefs [l0, l1, l2] = true ∧ Pn 5 s ∧ ∀ h, callPl (Rg.run pg 100) "_law_load" [.int c] h = .ok (.tup [l0, l1, l2, s], h) := by
  obtain ⟨s, os, es⟩ := slate_ok 97 (c / 13)
  obtain ⟨s3, _, e3⟩ := Sh.name (pg := pg) rfl 98 (c / 3)
  have r : ∃ v h', Rg.run pg 100 "_law_load" [.int c] [] = .ok (v, h') ∧ ∃ l0 l1 l2, v = .tup [l0, l1, l2, s] ∧ noRefs [l0, l1, l2] = true := by
    refine run_rets (k := 99) (d := ⟨"_law_load", 1, 2, D_k23.b_law_load⟩) rfl rfl ?_
    have sb : ∀ a b h, binop .Sub (.int a) (.int b) h = .ok (.int (a - b)) := fun a b h => rfl
    refine rets_step (ρ' := [some (.int c), some (if c % 3 = 0 then PV.non else if c % 3 = 1 then PV.tup [.str (Str.ofString "add"), .str s3, .int (c / 5 % 100000000000000000000 - 10000000000000000000)] else PV.tup [.str (Str.ofString "end")])]) (h' := []) (by simp [bd, b_mod, e3, binop]) ?_
    generalize hD : (if c % 3 = 0 then PV.non else if c % 3 = 1 then PV.tup [.str (Str.ofString "add"), .str s3, .int (c / 5 % 100000000000000000000 - 10000000000000000000)] else PV.tup [.str (Str.ofString "end")]) = D
    have nD : noRef D = true := by rw [← hD]; split; rfl; split <;> rfl
    refine rets_end (x := .tup [.tup [.int (c / 7 % 2), .int 0], .int (1 + c / 11 % 60), D, s]) (by simp [bd, b_mod, b_add, es]; first | exact ⟨rfl, rfl⟩ | rfl) ⟨_, _, _, rfl, by simp [nD]⟩
  obtain ⟨v, h', er, l0, l1, l2, rfl, o⟩ := r
  refine ⟨l0, l1, l2, s, o, os, fun h => callP_val er rfl ?_⟩
  simp only [noRefs_cons, noRefs_nil, Bool.and_true, Bool.and_eq_true] at o
  simp [o, os.no]
theorem near_run (p q c : Int) : ∃ x y : Int, (p = 0 → q = 0 → lt2 0 0 x y = true) ∧ ∀ h, callPl (run pg 100) "_law_near" [pr2 p q, .int c] h = .ok (pr2 x y, h) := by
  have r : ∃ v h', run pg 100 "_law_near" [pr2 p q, .int c] [] = .ok (v, h') ∧ ∃ x y : Int, v = pr2 x y ∧ (p = 0 → q = 0 → lt2 0 0 x y = true) := by
    refine run_rets (k := 99) (d := ⟨"_law_near", 2, 3, D_k23.b_law_near⟩) rfl rfl ?_
    refine rets_step (by simp [b_mod, pr2]; first | exact ⟨rfl, rfl⟩ | rfl) ?_
    have s1 : ∀ {x y : Int}, 0 < x → lt2 0 0 x y = true := fun {x y} h => by simp [lt2, h]
    by_cases w0 : c % 5 = 0 ∧ 0 < p
    · refine rets_end (x := pr2 p q) (by simp [w0.1, w0.2, pr2, evSs_cons]; first | exact ⟨rfl, rfl⟩ | rfl) ⟨p, q, rfl, fun e _ => by omega⟩
    · refine rets_step (ρ' := [some (.tup [.int p, .int q]), some (.int c), some (.int (c % 5))]) (h' := []) (by
        by_cases c0 : c % 5 = 0
        · have : ¬ 0 < p := fun z => w0 ⟨c0, z⟩
          simp [c0, this]
        · simp [c0]) ?_
      by_cases w1 : c % 5 = 1
      · refine rets_end (x := pr2 (p + 1) (c / 5 % 6)) (by simp [w1, binop, pr2, evSs_cons]; first | exact ⟨rfl, rfl⟩ | rfl) ⟨_, _, rfl, fun e _ => s1 (by omega)⟩
      · refine rets_step (by simp [w1]; first | exact ⟨rfl, rfl⟩ | rfl) ?_
        by_cases w2 : c % 5 = 2
        · refine rets_end (x := pr2 (if 1 < p - 1 then p - 1 else 1) (c / 5 % 6)) (by simp [w2, binop, pr2, evSs_cons, bltop]; first | exact ⟨rfl, rfl⟩ | rfl) ⟨_, _, rfl, fun e _ => s1 (by split <;> omega)⟩
        · refine rets_step (by simp [w2]; first | exact ⟨rfl, rfl⟩ | rfl) ?_
          by_cases w3 : c % 5 = 3
          · refine rets_end (x := pr2 (if 1 < p then p else 1) (c / 5 % 6)) (by simp [w3, binop, pr2, evSs_cons, bltop]; first | exact ⟨rfl, rfl⟩ | rfl) ⟨_, _, rfl, fun e _ => s1 (by split <;> omega)⟩
          · refine rets_step (by simp [w3]; first | exact ⟨rfl, rfl⟩ | rfl) ?_
            refine rets_end (x := pr2 (1 + c / 5 % 100000000000000000000) (c / 7 % 6)) (by simp [binop, pr2]; first | exact ⟨rfl, rfl⟩ | rfl) ⟨_, _, rfl, fun e _ => s1 (by omega)⟩
  obtain ⟨v, h', er, x, y, rfl, o⟩ := r
  exact ⟨x, y, o, fun h => callP_val er (by simp [pr2]) rfl⟩
/-! ### the rows sorted -/
def ki (p : L2.Key × PV) : Int := match p.1 with | .inl j => j | .inr _ => 0
theorem keys_run (k : Nat) : ∀ {l : Dc}, BR l → ∀ h, keysK (run pg (k + 2)) "key _law_epoch" (l.map (·.2)) h = .ok (l.map ki, h)
  | [], _, h => rfl
  | x :: l, hb, h => by
    obtain ⟨j, p, q, a, b, s, rfl, o⟩ := hb x List.mem_cons_self
    have e : run pg (k + 2) "key _law_epoch" [prow j p q a b s] h = .ok (.int j, h) := by
      have : run pg (k + 1) "_law_epoch" [prow j p q a b s] h = .ok (.int j, h) := by
        refine run_ret (d := ⟨"_law_epoch", 1, 1, D_k23.b_law_epoch⟩) rfl rfl (ρ := [some (prow j p q a b s)]) ?_
        simp [D_k23.b_law_epoch, evSs_cons, prow]
      rw [Rg.run]
      exact this
    simp only [List.map_cons, keysK, e, keys_run k (fun y hy => hb y (List.mem_cons_of_mem _ hy)) h, bnd_ok]
    rfl
theorem sort_rows {l : Dc} (hb : BR l) : sortK (l.map ki) (l.map (·.2)) = (dsort l).map (·.2) := by
  unfold sortK
  have e : (l.map ki).zip (l.map (·.2)) = l.map fun p => (ki p, p.2) := by
    rw [List.zip_map_left, List.zip_map_right, List.map_map]
    clear hb
    induction l with
    | nil => rfl
    | cons x l ih => simp only [List.zip_cons_cons, List.map_cons] at ih ⊢; rw [ih]; rfl
  rw [e, ← List.map_mergeSort (r := fun (a b : L2.Key × PV) => keyLe a.1 b.1) (fun a ha b hb' => ?_), List.map_map]
  · rfl
  · obtain ⟨j, p, q, a1, b1, s, rfl, o⟩ := hb a ha
    obtain ⟨j', p', q', a1', b1', s', rfl, o'⟩ := hb b hb'
    simp only [ki, keyLe, keyLt]
    by_cases c : j ≤ j'
    · simp [c]
    · simp [c]; omega
theorem old_of {B : Dc} (hb : BR B) (e : Int) : (valP B (.inl e)).getD (prow e 0 0 0 0 .non) = prow e (pge B e).p (pge B e).q (pge B e).a (pge B e).b (pge B e).s := by
  rcases hb.val e with ⟨h1, h2⟩ | h1
  · rw [h1, h2]; rfl
  · rw [h1]; rfl
def obody : Ss := match dropS 4 D_k23.b_law with | .cons (.forr _ _ b) _ => b | _ => .nil
theorem put_old {B : Dc} (nd : ND B) {k : L2.Key} {v : PV} (h : valP B k = some v) : dsort (putP B k v) = dsort B := dsort_eq (put_keys_nd nd) nd fun p => by
  rw [mem_put]
  constructor
  · rintro (rfl | ⟨_, hp⟩)
    · exact val_mem h
    · exact hp
  · intro hp
    by_cases c : p.1 = k
    · left
      have := mem_val nd (show (p.1, p.2) ∈ B from hp)
      rw [c, h] at this
      cases this
      rw [← c]
    · exact .inr ⟨c, hp⟩
def oldF (e : Int) : Dc → PV → PV
  | [], o => o
  | p :: l, o => oldF e l (if p.1 = .inl e then p.2 else o)
theorem oldF_val (e : Int) : ∀ {l : Dc} (o : PV), ND l → oldF e l o = (valP l (.inl e)).getD o
  | [], o, _ => rfl
  | p :: l, o, nd => by
    simp only [oldF]
    rw [oldF_val e _ nd.tail]
    by_cases c : p.1 = .inl e
    · have n : valP l (.inl e) = none := val_none.mpr (by rw [← c]; exact (List.nodup_cons.mp nd).1)
      rw [if_pos c, val_hit c, n]; rfl
    · rw [if_neg c, val_miss c]
theorem old_loop {S : PV} {bk : PV} {e : Int} {x5 x6 x7 x8 x9 x10 : Option PV} {h : MH} : ∀ {l : Dc} (o : PV) (x4 : Option PV), BR l →
    ∃ x4', forL (fbody (Rg.run pg 100) pg.gl (.name 4) obody) [] (l.map (·.2)) [some S, some bk, some (.int e), some o, x4, x5, x6, x7, x8, x9, x10] h = .ok (.nx, [some S, some bk, some (.int e), some (oldF e l o), x4', x5, x6, x7, x8, x9, x10], h)
  | [], o, x4, _ => ⟨x4, by simp [forL, oldF, lkOk]⟩
  | p :: l, o, x4, hb => by
    obtain ⟨j, p1, q, a, b, s, rfl, os⟩ := hb p List.mem_cons_self
    obtain ⟨x4', ih⟩ := old_loop (S := S) (bk := bk) (e := e) (x5 := x5) (x6 := x6) (x7 := x7) (x8 := x8) (x9 := x9) (x10 := x10) (h := h) (l := l) (if (Sum.inl j : L2.Key) = .inl e then prow j p1 q a b s else o) (some (prow j p1 q a b s)) fun y hy => hb y (List.mem_cons_of_mem _ hy)
    refine ⟨x4', ?_⟩
    rw [oldF, ← ih]
    by_cases c : j = e
    · subst c
      simp [forL, fbody, obody, dropS, D_k23.b_law, evSs_cons, prow, lkOk]
    · have c' : ¬ (Sum.inl j : L2.Key) = Sum.inl e := fun z => c (by injection z)
      simp [forL, fbody, obody, dropS, D_k23.b_law, evSs_cons, prow, lkOk, c, c']
theorem holds (ns : List Int) (hl : ns.length ≤ 63) (hb : ∀ z ∈ ns, Builtin.Int.intBits z ≤ 1048576) : ∃ h', run D_k23.pg 101 "law" [.lst (ns.map PV.int)] [] = .ok (.bl true, h') := by
  have al : ∀ v n, Pn n v → n ≤ 90 → ∀ h, callPl (run pg 100) "_law_alike" [v, v] h = .ok (.bl true, h) := fun v n o hn h => Sh.alike (pg := pg) rfl o.ok.1 (by have := o.2; omega) h
  have b0 : (1000 : Nat) < big := by decide
  obtain ⟨B, hB, up, hlen, eb⟩ := book_run ns
  have cell : ∀ (j : Nat) h, callPl (run pg 100) "_law_cell_at" [.lst (ns.map PV.int), .int j] h = .ok (.int (cAt ns j), h) := fun j h => Sh.cellP (pg := pg) rfl 99 ns j h
  have nd := up.nd
  have ds := up.sort
  generalize hS : PV.lst (ns.map PV.int) = S at cell eb ⊢
  have c0 : ∀ h, callPl (run pg 100) "_law_cell_at" [S, .int 0] h = .ok (.int (cAt ns 0), h) := fun h => cell 0 h
  have c1 : ∀ h, callPl (run pg 100) "_law_cell_at" [S, .int 1] h = .ok (.int (cAt ns 1), h) := fun h => cell 1 h
  have c6 : ∀ h, callPl (run pg 100) "_law_cell_at" [S, .int 6] h = .ok (.int (cAt ns 6), h) := fun h => cell 6 h
  have rB : rows B = .tup (B.map (·.2)) := by unfold rows; rw [ds]
  have lB : (B.map (·.2)).length = B.length := by simp
  -- the epoch
  obtain ⟨e, he⟩ : ∃ e : Int, ∀ x3 x4 x5 x6 x7 x8 x9 x10 h, evS (run pg 100) pg.gl (match dropS 2 D_k23.b_law with | .cons s _ => s | _ => .pass) [some S, some (rows B), some (.int (cAt ns 0 / 7 % 12)), x3, x4, x5, x6, x7, x8, x9, x10] h =
      .ok (.nx, [some S, some (rows B), some (.int e), x3, x4, x5, x6, x7, x8, x9, x10], h) := by
    by_cases cd : 0 < B.length ∧ 1 < cAt ns 0 % 7
    · obtain ⟨c, c2⟩ := cd
      have hi : (cAt ns 0 / 7 % (B.length : Int)).toNat < B.length := by
        have := Int.emod_lt_of_pos (cAt ns 0 / 7) (show (0 : Int) < B.length by omega)
        have := Int.emod_nonneg (cAt ns 0 / 7) (show (B.length : Int) ≠ 0 by omega)
        omega
      obtain ⟨i, ei⟩ : ∃ i : Nat, (i : Int) = cAt ns 0 / 7 % (B.length : Int) := ⟨_, Int.toNat_of_nonneg (Int.emod_nonneg _ (by omega))⟩
      have hi' : i < B.length := by omega
      obtain ⟨j, p, q, a, b, s, ex, o⟩ := hB _ (List.getElem_mem hi')
      have ix : ∀ h, idxop (.tup (B.map (·.2))) (.int (i : Int)) h = .ok (prow j p q a b s) := fun h => idx_tup (by rw [List.getElem?_map, List.getElem?_eq_getElem hi', ex]; rfl)
      have em : ∀ h, binop .Mod (.int (cAt ns 0 / 7)) (.int (B.length : Int)) h = .ok (.int (i : Int)) := fun h => by
        rw [ei]
        simp only [binop]
        rw [if_pos (show (0 : Int) < (B.length : Int) by omega)]
      refine ⟨j, fun x3 x4 x5 x6 x7 x8 x9 x10 h => ?_⟩
      have c' : (0 : Int) < (B.length : Int) := by omega
      rw [rB]
      simp [dropS, D_k23.b_law, bltop, sview, c, c', c2, c0, bd, b_mod, em, evSs_cons, ix, prow]
    · refine ⟨cAt ns 0 / 7 % 12, fun x3 x4 x5 x6 x7 x8 x9 x10 h => ?_⟩
      rw [rB]
      by_cases c : 0 < B.length
      · have c2 : ¬ 1 < cAt ns 0 % 7 := fun z => cd ⟨c, z⟩
        have c' : (0 : Int) < (B.length : Int) := by omega
        simp [dropS, D_k23.b_law, bltop, sview, c, c', c2, c0, bd, b_mod]
      · have c' : ¬ (0 : Int) < (B.length : Int) := by omega
        simp [dropS, D_k23.b_law, bltop, sview, c, c', c0, bd, b_mod]
  obtain ⟨x4, lp⟩ := old_loop (S := S) (bk := rows B) (e := e) (x5 := none) (x6 := none) (x7 := none) (x8 := none) (x9 := none) (x10 := none) (h := []) (prow e 0 0 0 0 .non) none hB
  rw [oldF_val e _ nd, old_of hB e] at lp
  obtain ⟨x, y, hxy, nr⟩ := near_run (pge B e).p (pge B e).q (cAt ns 1 % 10000000000000000000000000000000000000000)
  obtain ⟨l0, l1, l2, s1, nl, os1, el⟩ := load_ok (cAt ns 7 % 10000000000000000000000000000000000000000)
  have c7 : ∀ h, callPl (Rg.run pg 100) "_law_cell_at" [S, .int 7] h = .ok (.int (cAt ns 7), h) := fun h => cell 7 h
  have hP := hB.val e
  have sP := hB.s_pn e
  have tell := fun K s (os : Pn 5 s) (c : lt2 x y (pge B e).p (pge B e).q = false) h => heard_tell G 98 hB nd (by omega) y K e x y nl os c h
  have late := fun K s (n : noRef (.tup [l0, l1, l2, s]) = true) (c : lt2 x y (pge B e).p (pge B e).q = true) h => heard_late G 98 hB nd (by omega) (w := "tell") y K e x y n (.inr ⟨rfl, c⟩) h
  generalize hp0 : (pge B e).p = p0 at *
  generalize hq0 : (pge B e).q = q0 at *
  generalize ha0 : (pge B e).a = a0 at *
  generalize hb0 : (pge B e).b = b0' at *
  generalize hs0 : (pge B e).s = s0 at *
  have cp : ∀ x4 x5 x6 x7 x8 h, compL (cbody (Rg.run pg 100) pg.gl [some S, some (rows B), some (.int e), some (prow e p0 q0 a0 b0' s0), x4, x5, x6, x7, x8, none, none] [("row", 4)] (.name 4) (.cons (.cmp .NotEq (.idx (.var 4) (.kint 0)) (.var 2)) .nil) (.var 4)) [] (B.map (·.2)) h [] = .ok ((B.filter fun p => decide (p.1 ≠ .inl e)).map (·.2), h) := fun x4 x5 x6 x7 x8 h => by
    refine compL_dc _ (fun p hp => ?_) (by simp; omega)
    obtain ⟨j, p1, q, a, b, s, rfl, os⟩ := hB p hp
    by_cases c : j = e
    · subst c; simp [cbody, wipeP, prow]
    · have c' : ¬ (Sum.inl j : L2.Key) = Sum.inl e := fun z => c (by injection z)
      simp [cbody, wipeP, prow, c, c']
  have srt : ∀ v, (∃ p q a b s, v = prow e p q a b s ∧ Pn 5 s) → BR ((B.filter fun p => decide (p.1 ≠ .inl e)) ++ [((Sum.inl e : L2.Key), v)]) := fun v hv z hz => by
    rcases List.mem_append.mp hz with hz | hz
    · exact hB z (List.mem_filter.mp hz).1
    · rw [List.mem_singleton] at hz
      obtain ⟨p, q, a, b, s, rfl, o⟩ := hv
      exact ⟨e, p, q, a, b, s, hz, o⟩
  have flen := List.length_filter_le (fun p => decide (p.1 ≠ (Sum.inl e : L2.Key))) B
  have add := fun v => (dsort_add (k := (Sum.inl e : L2.Key)) (v := v) nd).2
  rw [ds] at add
  generalize hF : (B.filter fun p => decide (p.1 ≠ (Sum.inl e : L2.Key))) = F at cp srt flen add
  refine law_by (d := ⟨"law", 1, 11, D_k23.b_law⟩) rfl rfl ?_
  show Rets _ (evSs (Rg.run pg 100) pg.gl D_k23.b_law [some S, none, none, none, none, none, none, none, none, none, none] [])
  simp only [dropS, D_k23.b_law, obody] at he lp ⊢
  refine rets_step (by simp [eb]; first | exact ⟨rfl, rfl⟩ | rfl) ?_
  refine rets_step (by simp [c0, bd, b_mod]; first | exact ⟨rfl, rfl⟩ | rfl) ?_
  refine rets_step (he _ _ _ _ _ _ _ _ _) ?_
  refine rets_step (ρ' := [some S, some (rows B), some (.int e), some (prow e 0 0 0 0 .non), none, none, none, none, none, none, none]) (h' := []) (by simp [prow, pr2]) ?_
  rw [rB] at lp
  refine rets_step (ρ' := [some S, some (rows B), some (.int e), some (prow e p0 q0 a0 b0' s0), x4, none, none, none, none, none, none]) (h' := []) (by rw [rB]; simp [evS_forr, lp]) ?_
  have p1 : ∀ h, idxop (prow e p0 q0 a0 b0' s0) (.int 1) h = .ok (pr2 p0 q0) := fun h => idx_t1
  have p2 : ∀ h, idxop (prow e p0 q0 a0 b0' s0) (.int 2) h = .ok (pr2 a0 b0') := fun h => idx_t2
  have p3 : ∀ h, idxop (prow e p0 q0 a0 b0' s0) (.int 3) h = .ok s0 := fun h => idx_t3
  refine rets_step (by simp [p1, c1, b_mod, binop, nr]; first | exact ⟨rfl, rfl⟩ | rfl) ?_
  refine rets_step (by simp [c6, b_mod]; first | exact ⟨rfl, rfl⟩ | rfl) ?_
  generalize cAt ns 6 % 6 = K
  refine rets_step (by simp [c7, b_mod, binop, el]; first | exact ⟨rfl, rfl⟩ | rfl) ?_
  have ix : ∀ h, idxop (pr2 x y) (.int 1) h = .ok (.int y) := fun h => idx_t1
  obtain ⟨s, os, hst⟩ : ∃ s, Pn 5 s ∧ evS (Rg.run pg 100) pg.gl (match dropS 8 D_k23.b_law with | .cons s _ => s | _ => .pass) [some S, some (rows B), some (.int e), some (prow e p0 q0 a0 b0' s0), x4, some (pr2 x y), some (.int K), some (.tup [l0, l1, l2, s1]), none, none, none] [] =
      .ok (.nx, [some S, some (rows B), some (.int e), some (prow e p0 q0 a0 b0' s0), x4, some (pr2 x y), some (.int K), some (.tup [l0, l1, l2, s]), none, none, none], []) := by
    have ce : ∀ h, eqop (pr2 x y) (pr2 a0 b0') h = .ok (x == a0 && y == b0') := fun h => by
      have q := eqop_tup (a := [PV.int x, PV.int y]) (b := [PV.int a0, PV.int b0']) (h := h) rfl rfl (by simp [deps, dep])
      unfold pr2
      rw [q]
      simp [peqs, peq]
    have cut : ∀ h, slcop (.tup [l0, l1, l2, s1]) none (some 3) h = .ok (.tup [l0, l1, l2]) := fun h => rfl
    have b4 : 4 ≤ big := by decide
    generalize (x == a0 && y == b0') = c at ce
    cases c with
    | true => exact ⟨s0, sP, by simp [dropS, D_k23.b_law, p2, p3, ce, cut, evSs_cons, binop, b4]⟩
    | false => exact ⟨s1, os1, by simp [dropS, D_k23.b_law, p2, ce]⟩
  simp only [dropS, D_k23.b_law] at hst
  refine rets_step hst ?_
  have nL : noRef (.tup [l0, l1, l2, s]) = true := by
    simp only [noRefs_cons, noRefs_nil, Bool.and_true, Bool.and_eq_true] at nl
    simp [nl, os.no]
  by_cases c : lt2 x y p0 q0 = false
  · have ea := fun h => tell K s os c h
    simp only [ltr] at ea
    have putB := BR.put hB (j := e) (p := x) (q := y) (a := x) (b := y) os
    refine rets_step (by simp [ix, ea]; first | exact ⟨rfl, rfl⟩ | rfl) ?_
    generalize hL : PV.tup [PV.str (Str.ofString "kept"), PV.int K, PV.int y, PV.int e, pr2 x y, PV.tup []] = L
    have cp' := fun x4 x5 x6 x7 x8 h => cp x4 x5 x6 x7 x8 h
    rw [rB] at cp'
    refine rets_step (ρ' := [some S, some (rows B), some (.int e), some (prow e p0 q0 a0 b0' s0), x4, some (pr2 x y), some (.int K), some (.tup [l0, l1, l2, s]), some (.tup [rows (putP B (.inl e) (prow e x y x y s)), L]), some (.ref 0), none]) (h' := [.lst (F.map (·.2))]) (by rw [rB]; simp [evE_comp, cp']) ?_
    have hz : F.length < big := by omega
    refine rets_step (ρ' := [some S, some (rows B), some (.int e), some (prow e p0 q0 a0 b0' s0), x4, some (pr2 x y), some (.int K), some (.tup [l0, l1, l2, s]), some (.tup [rows (putP B (.inl e) (prow e x y x y s)), L]), some (.ref 0), some L])
      (h' := [.lst ((F ++ [((Sum.inl e : L2.Key), prow e x y x y s)]).map (·.2))]) (by
        have cg : ∀ h, cmpop .GtE (pr2 x y) (pr2 p0 q0) h = .ok true := fun h => by rw [cmp_GtE2, c]; rfl
        simp [cg, evSs_cons, mthTy, mthop, isLs, hz, ix, p1, p2, p3, ← hL]; rfl) ?_
    have kr := keys_run 98 (srt _ ⟨x, y, x, y, s, rfl, os⟩)
    have sr := sort_rows (srt _ ⟨x, y, x, y, s, rfl, os⟩)
    rw [add] at sr
    generalize hm : ((F ++ [((Sum.inl e : L2.Key), prow e x y x y s)]).map (·.2)) = M at kr sr ⊢
    generalize ((F ++ [((Sum.inl e : L2.Key), prow e x y x y s)]).map ki) = KS at kr sr
    refine rets_step (by simp [lview, kr, sr]; first | exact ⟨rfl, rfl⟩ | rfl) ?_
    have oB : Pn 7 (rows (putP B (.inl e) (prow e x y x y s))) := Pn.tup putB.ir.sort.pl (by
      have := dsort_len (putP B (.inl e) (prow e x y x y s))
      have := put_len (d := B) (k := .inl e) (v := prow e x y x y s)
      simp; omega)
    have oL : Pn 7 L := by
      rw [← hL]
      refine Pn.tup (fun v hv => ?_) (by simp)
      simp only [List.mem_cons, List.not_mem_nil, or_false] at hv
      rcases hv with rfl | rfl | rfl | rfl | rfl | rfl
      · exact pn_str
      · exact pn_int
      · exact pn_int
      · exact pn_int
      · exact pr2_pn
      · exact Pn.tup (fun v hv => by simp at hv) (by simp)
    have a1 := al _ 8 (pair_pn oB oL) (by omega)
    have tu : ∀ h, bltop .tuple [.lst ((dsort (putP B (.inl e) (prow e x y x y s))).map (·.2))] h = .ok (rows (putP B (.inl e) (prow e x y x y s))) := fun h => rfl
    exact rets_end (by simp [tu, a1]; first | exact ⟨rfl, rfl⟩ | rfl) rfl
  · have cf : lt2 x y p0 q0 = true := by simpa using c
    have ea := fun h => late K s nL cf h
    simp only [ltr] at ea
    have hv : valP B (.inl e) = some (prow e p0 q0 a0 b0' s0) := by
      rcases hP with ⟨h1, h2⟩ | h1
      · exfalso
        have z1 : p0 = 0 := by rw [← hp0, h2]
        have z2 : q0 = 0 := by rw [← hq0, h2]
        have z3 := hxy z1 z2
        rw [z1, z2] at cf
        simp only [lt2, decide_eq_true_eq] at z3 cf
        omega
      · exact h1
    have po := put_old nd hv
    refine rets_step (by simp [ix, ea]; first | exact ⟨rfl, rfl⟩ | rfl) ?_
    generalize hL : PV.tup [PV.str (Str.ofString "late"), PV.int K, PV.int y, PV.int e, pr2 x y, PV.tup [pr2 p0 q0]] = L
    have cp' := fun x4 x5 x6 x7 x8 h => cp x4 x5 x6 x7 x8 h
    rw [rB] at cp'
    refine rets_step (ρ' := [some S, some (rows B), some (.int e), some (prow e p0 q0 a0 b0' s0), x4, some (pr2 x y), some (.int K), some (.tup [l0, l1, l2, s]), some (.tup [rows B, L]), some (.ref 0), none]) (h' := [.lst (F.map (·.2))]) (by rw [rB]; simp [evE_comp, cp']) ?_
    have hz : F.length < big := by omega
    refine rets_step (ρ' := [some S, some (rows B), some (.int e), some (prow e p0 q0 a0 b0' s0), x4, some (pr2 x y), some (.int K), some (.tup [l0, l1, l2, s]), some (.tup [rows B, L]), some (.ref 0), some L])
      (h' := [.lst ((F ++ [((Sum.inl e : L2.Key), prow e p0 q0 a0 b0' s0)]).map (·.2))]) (by
        have cg : ∀ h, cmpop .GtE (pr2 x y) (pr2 p0 q0) h = .ok false := fun h => by rw [cmp_GtE2, cf]; rfl
        simp [cg, evSs_cons, mthTy, mthop, isLs, hz, ix, p1, ← hL]) ?_
    have kr := keys_run 98 (srt _ ⟨p0, q0, a0, b0', s0, rfl, sP⟩)
    have sr := sort_rows (srt _ ⟨p0, q0, a0, b0', s0, rfl, sP⟩)
    rw [add, po] at sr
    generalize hm : ((F ++ [((Sum.inl e : L2.Key), prow e p0 q0 a0 b0' s0)]).map (·.2)) = M at kr sr ⊢
    generalize ((F ++ [((Sum.inl e : L2.Key), prow e p0 q0 a0 b0' s0)]).map ki) = KS at kr sr
    refine rets_step (by simp [lview, kr, sr]; first | exact ⟨rfl, rfl⟩ | rfl) ?_
    have oB : Pn 7 (rows B) := Pn.tup hB.ir.sort.pl (by have := dsort_len B; simp; omega)
    have oL : Pn 7 L := by
      rw [← hL]
      refine Pn.tup (fun v hv => ?_) (by simp)
      simp only [List.mem_cons, List.not_mem_nil, or_false] at hv
      rcases hv with rfl | rfl | rfl | rfl | rfl | rfl
      · exact pn_str
      · exact pn_int
      · exact pn_int
      · exact pn_int
      · exact pr2_pn
      · exact Pn.tup (fun v hv => by rw [List.mem_singleton] at hv; rw [hv]; exact pr2_pn) (by simp)
    have a1 := al _ 8 (pair_pn oB oL) (by omega)
    have tu : ∀ h, bltop .tuple [.lst ((dsort B).map (·.2))] h = .ok (rows B) := fun h => rfl
    exact rets_end (by simp [tu, a1]; first | exact ⟨rfl, rfl⟩ | rfl) rfl
end P_k23

theorem PySem.Challenge.cw_oneslate_k23_a_tell_heard_holds : PySem.Challenge.rw_oneslate_k23_a_tell_heard.Holds := by
  exact E_k23.early P_k23.holds
