import PyProof.Rows.All
import Wide.All
import OpenK.AllK
import Wide.FinOn
import HandS.ForMost
import HandS.TupSets
import HandS.Zip
import HandS.Star
import HandS.Walk
import HandS.Style
import HandS.Property
import HandS.IsInst
import HandS.TupAny
import HandS.Deep
import HandS.Flow
import HandS.SortKw
import HandS.More
import KE.SortKeyHeap
import KE.GoesMore
import KE.GoesDict
import PySem.Challenge.RW_regroups_k33_whole_beginnings_and_stops
import KE.GoesEnum
import KE.KDictDisplayH
import HandS.DictComp
import KE.KDictSum
import HandS.DictTup
import KE.KDictCopyH
import KE.SortData
import HandS.ExcValue
import HandS.ExcOwn
import HandS.Iter
import OpenK.KMake
import PyProof.FactsAll.NoneType_1
import HandS.WideBits
set_option Elab.async false
set_option linter.all false
set_option maxRecDepth 100000
set_option maxHeartbeats 4000000
/-! The mirror: what each def computes, over trees and rows of natural numbers. -/
namespace Rg
inductive T where
  | leaf (n : Nat)
  | node (l r : T)
  deriving DecidableEq
def T.fst : T → Nat
  | .leaf n => n
  | .node l _ => l.fst
def T.lst : T → Nat
  | .leaf n => n
  | .node _ r => r.lst
def T.ht : T → Nat
  | .leaf _ => 0
  | .node l r => max l.ht r.ht + 1
/-- first factor, join, last factor, by joins -/
def T.spans : T → List (Nat × Nat × Nat)
  | .leaf _ => []
  | .node l r => l.spans ++ (l.fst, l.lst, r.lst) :: r.spans
def T.reach : T → List Nat
  | .leaf _ => []
  | .node l r => l.reach ++ r.lst :: r.reach
def T.isLeaf : T → Bool
  | .leaf _ => true
  | .node _ _ => false
/-- one step later, as the law lists them -/
def T.after : T → List T
  | .leaf _ => []
  | .node l r => (l.after.map fun x => T.node x r) ++ ((r.after.map fun x => T.node l x) ++
      (match l with
       | .leaf _ => []
       | .node a b => [T.node a (.node b r)]))
/-- all groupings of k + 1 factors from a on, as the law lists them -/
def every : Nat → Nat → Nat → List T
  | 0, a, _ => [.leaf a]
  | d + 1, a, b => if a = b then [.leaf a] else
      (List.range (b - a)).flatMap fun i => (every d a (a + i)).flatMap fun l => (every d (a + i + 1) b).map fun r => T.node l r
/-- reach by reach -/
def fitsL : List Nat → List Nat → Bool
  | [], _ => true
  | _ :: _, [] => true
  | x :: xs, y :: ys => Nat.ble x y && fitsL xs ys
def goes (s t : T) : Bool := fitsL s.reach t.reach

/-! ### the package's rows -/
def opn (r : List Nat) (i : Nat) : Bool := Nat.ble (r.getD i 0) r.length && !((r.take i).any fun y => Nat.beq y (r.getD i 0))
def openIn (r : List Nat) : List Nat := ((List.range r.length).filter (opn r)).map (· + 1)
def stepped (r : List Nat) (j : Nat) : List Nat := r.take (j - 1) ++ r.getD (r.getD (j - 1) 0 - 1) 0 :: r.drop j
def waysOn (r g : List Nat) : List Nat := (openIn r).filter fun j => fitsL (stepped r j) g

end Rg

namespace Rg
open PySem PySem.Spec PyProof.Rows L2
/-! ### the text by places -/
def topS (i : Nat) : Stmt := PySem.Challenge.pw_regroups_k33_whole_beginnings_and_stops.main.body.getD i (.Pass ⟨0, 0, 0, 0⟩)
/-! ### data in the heap -/
def vn (n : Nat) : V := .int (n : Int)
abbrev rowV (r : List Nat) : List V := r.map vn
def RowAt (H : Hp) (r : List Nat) (v : V) : Prop := ∃ a, v = .ref a ∧ H a = some (.tup (rowV r))
def TAt (H : Hp) : T → V → Prop
  | .leaf n, v => v = vn n
  | .node l r, v => ∃ a x y, v = .ref a ∧ H a = some (.tup [x, y]) ∧ TAt H l x ∧ TAt H r y
/-- a list whose items are told -/
def LAt {α : Type} (R : Hp → α → V → Prop) (H : Hp) (as : List α) (v : V) : Prop := ∃ a xs, v = .ref a ∧ H a = some (.lst xs) ∧ Paired (R H) as xs
theorem RowAt.mono {H H' : Hp} (s : Same H H') {r : List Nat} {v : V} (h : RowAt H r v) : RowAt H' r v := by
  obtain ⟨a, e, h⟩ := h
  exact ⟨a, e, s _ _ h⟩
theorem TAt.keep {H H' : Hp} (s : ∀ b xs, H b = some (.tup xs) → H' b = some (.tup xs)) : ∀ {t : T} {v : V}, TAt H t v → TAt H' t v
  | .leaf _, _, h => h
  | .node l r, _, h => by
    obtain ⟨a, x, y, e, h1, h2, h3⟩ := h
    exact ⟨a, x, y, e, s _ _ h1, TAt.keep s h2, TAt.keep s h3⟩
theorem TAt.mono {H H' : Hp} (s : Same H H') {t : T} {v : V} (h : TAt H t v) : TAt H' t v := TAt.keep (fun b xs => s b _) h
theorem same_new {H : Hp} {p : Addr} {o : HO} (h : H p = none) : Same H (upd H p o) := fun b x e => by
  rw [upd_ne (ne_of_none e h)]
  exact e
theorem Same.mut {H H' : Hp} {p : Addr} {o : HO} (e : Same H H') (h : H p = none) : Same H (upd H' p o) := fun a u ha => by
  rw [upd_ne (ne_of_none ha h)]
  exact e a u ha
/-! ### defs by name -/
/-- the def st stands at the name x -/
structure At (K : PySem.W.Frag) (mg : Str → Option Value) (x : Str) (st : Stmt) : Prop where
  ex : ∃ f fd, Fun K x x st f fd ∧ mg x = some (.ref f)
/-- what the name x holds keeps this promise -/
structure Has (P : Program) (w : World) (K : PySem.W.Frag) (mg : Str → Option Value) (base : Heap) (x : Str) (k : Nat) (sp : Sp) : Prop where
  ex : ∃ f fd ps, FnOk P w K mg base CX0 k f fd ps sp ∧ mg x = some (.ref f) ∧ PySem.W.keepIn K (.ref f) = true ∧ Binds K fd ps []
section
variable {P : Program} {w : World} {K : PySem.W.Frag} {mg : Str → Option Value} {base : Heap}
theorem Has.imp {x : Str} {k : Nat} {sp sp' : Sp} (h : Has P w K mg base x k sp) (i : ∀ vs H Q E, sp' vs H Q E → sp vs H Q E) : Has P w K mg base x k sp' := by
  obtain ⟨f, fd, ps, h1, h2, h3, h4⟩ := h.ex
  exact ⟨f, fd, ps, h1.imp i, h2, h3, h4⟩
theorem Has.mono {x : Str} {j k : Nat} {sp : Sp} (h : Has P w K mg base x j sp) (i : j ≤ k) : Has P w K mg base x k sp := by
  obtain ⟨f, fd, ps, h1, h2, h3, h4⟩ := h.ex
  exact ⟨f, fd, ps, h1.mono i, h2, h3, h4⟩
theorem has_of {x : Str} {st : Stmt} {N ps : List Str} {k : Nat} {sp : Sp} (A : At K mg x st) (S : FnScope N ps (defScope st))
    (hb : ∀ (kV doc pm : Value) (an : Option Addr) (cdv ct : Value) (us : List Value), us.length = ps.length → bindArgs (PySem.W.fnOf x x (defArgs st) (defBody st) (defScope st) .none kV doc pm an cdv ct) ⟨us, []⟩ = pure (ps.zip us))
    (len : ∀ vs H Q E, sp vs H Q E → vs.length = ps.length)
    (hbody : ∀ (f : Addr) (cdv : Value) (A : Around) (outer : List Env) (s : Shared) (H : Hp) (vs : List V) (Q : VK) (E : XK), Room k (A.deeper (envOfC x (defScope st) s.heap.objs.size f cdv)) → sp vs H Q E →
      ∃ t, PSs (cxOf CX0 P w K mg base N x (defScope st) f cdv A outer s H E).nox (defBody st) t ∧ t { nx := fun _ H' => Q .non H', rt := Q } (start N vs) H) : Has P w K mg base x (k + 1) sp := by
  obtain ⟨f, fd, F, hm⟩ := A.ex
  exact ⟨f, fd, ps, F.ok S len (fun cdv A outer s H vs Q E hr h => hbody f cdv A outer s H vs Q E hr h), hm, F.kp, F.binds hb⟩
theorem has_no {x : Str} {st : Stmt} {ps : List Str} {sp : Sp} (A : At K mg x st)
    (hb : ∀ (kV doc pm : Value) (an : Option Addr) (cdv ct : Value) (us : List Value), us.length = ps.length → bindArgs (PySem.W.fnOf x x (defArgs st) (defBody st) (defScope st) .none kV doc pm an cdv ct) ⟨us, []⟩ = pure (ps.zip us))
    (no : ∀ vs H Q E, ¬ sp vs H Q E) {k : Nat} : Has P w K mg base x k sp := by
  obtain ⟨f, fd, F, hm⟩ := A.ex
  exact ⟨f, fd, ps, ⟨fun vs H Q E h => absurd h (no vs H Q E), fun A outer s H args us vs Q E _ _ _ _ h => absurd h (no vs H Q E)⟩, hm, F.kp, F.binds hb⟩
end
section
variable {X : Cx} {x : Str} {k m : Nat} {sp : Sp} {e : Expr} {es : List Expr} {t : TA} {p pos : Pos}
theorem pe_c (h : Has X.prog X.w X.K X.mg X.base x k sp) (hr : Room m X.A) (ha : PA X (e :: es) t) (hkm : k ≤ m := by decide) (hg : Gl X x := by rfl)
    (hdb : (x == ("__debug__" : Str)) = false := by decide) (he : starEach (e :: es) X.env = (false, eval e X.env) :: starEach es X.env := by rfl) (hpl : (backTo pos (starEach es X.env)).any (·.1) = false := by rfl) :
    PE X (.Call (.Name x p) (e :: es) [] pos) (tCall sp [] E0 t) := by
  obtain ⟨f, fd, ps, h1, h2, h3, h4⟩ := h.ex
  exact pe_call h1 (hr.mono hkm) hg h2 h3 h4 .nil pass0 ha hdb he hpl
end
/-- the names that are still built in -/
structure Bi (mg : Str → Option Value) : Prop where
  isinstance : mg "isinstance" = none
  list : mg "list" = none
  tuple : mg "tuple" = none
  int : mg "int" = none
  bool : mg "bool" = none
  abs : mg "abs" = none
  any : mg "any" = none
  enumerate : mg "enumerate" = none
  all : mg "all" = none
  len : mg "len" = none
  sorted : mg "sorted" = none
  set : mg "set" = none
  sum : mg "sum" = none
  range : mg "range" = none
  zip : mg "zip" = none
end Rg

/-! rules with the written part K said outright (a comprehension's block wants that) -/
namespace Rg
open PySem PySem.Spec PyProof.Rows L2
section
variable {X : Cx} {K : PySem.W.Frag}
theorem ixL (hK : X.K = K := by rfl) : IxR X (rIxL K) := by subst hK; exact ix_list
theorem ixT (hK : X.K = K := by rfl) : IxR X (rIxT K) := by subst hK; exact ix_tup
def rLen (K : PySem.W.Frag) : List V → Hp → VK → Prop := fun xs H Q => ∃ p ys, xs = [.ref p] ∧ (SqL K H p ys ∨ SqT K H p ys) ∧ Q (.int ys.length) H
theorem cLen (hK : X.K = K := by rfl) : CallR X (.builtin "len") (rLen K) := by subst hK; exact call_len_seq
theorem cSum (hc : X.calm = true := by rfl) (hK : X.K = K := by rfl) : CallR X (.builtin "sum") (rSum K) := by subst hK; exact cr_sum hc
theorem cAll (hc : X.calm = true := by rfl) (hK : X.K = K := by rfl) : CallR X (.builtin "all") (rAll K) := by subst hK; exact cr_all hc
theorem cAny (hc : X.calm = true := by rfl) (hK : X.K = K := by rfl) : CallR X (.builtin "any") (rAny K) := by subst hK; exact cr_any hc
def rTupOf (K : PySem.W.Frag) : List V → Hp → VK → Prop := fun xs H Q => ∃ p ys, xs = [.ref p] ∧ ((SqL K H p ys ∧ ∀ l, H l = none → Q (.ref l) (upd H l (.tup ys))) ∨ (SqT K H p ys ∧ Q (.ref p) H))
theorem cTup (hK : X.K = K := by rfl) : CallR X (.type "tuple") (rTupOf K) := by subst hK; exact call_tuple_of
theorem slT (hK : X.K = K := by rfl) : SlR X (rSlA K) := by subst hK; exact sl_tupA
theorem slL (hK : X.K = K := by rfl) : SlR X (rSlL K) := by subst hK; exact sl_list
theorem opIn (hK : X.K = K := by rfl) : OpR X (compareOp .In) (rIn K false) := by subst hK; exact op_in_seq
theorem opNotIn (hK : X.K = K := by rfl) : OpR X (compareOp .NotIn) (rIn K true) := by subst hK; exact op_notIn_seq
theorem opCatT (hK : X.K = K := by rfl) : OpR X (binaryOp .Add) (rCatA K) := by subst hK; exact op_catA
theorem opEqD (hu : X.A.units + 64 < cLine) (hK : X.K = K := by rfl) : OpR X (compareOp .Eq) (rEqD K) := by subst hK; exact op_eqD hu
theorem opNeD (hu : X.A.units + 64 < cLine) (hK : X.K = K := by rfl) : OpR X (compareOp .NotEq) (rNeD K) := by subst hK; exact op_neD hu
theorem cIsi (hK : X.K = K := by rfl) : CallR X (.builtin "isinstance") (rIsi K) := by subst hK; exact call_isi
end
end Rg

/-! enumerate of a tuple -/
namespace Rg
open PySem PySem.Spec PyProof.Rows L2
/-- the turns of enumerate over the tuple at a -/
def IteT (K : PySem.W.Frag) (a : Addr) : It where
  go := fun i H => ∃ (xs : List V) (x : V), SqT K H a xs ∧ xs[i]? = some x
  yld := fun i H v H' => ∃ T x, v = .ref T ∧ H T = none ∧ H' = upd H T (.tup [.int (i : Nat), x]) ∧ ∀ xs, SqT K H a xs → xs[i]? = some x
  stop := fun i H => ∃ xs : List V, SqT K H a xs ∧ xs.length = i
/-- an enumerate object and a tuple's iterator are no tuple -/
theorem enum_not_tup {h : Heap} {e it a : Addr} {i : Int} {old : Value} {items : Array Value} (he : IsEnum h e it i old) (ht : IsTup h a items) : a ≠ e := by
  rintro rfl
  obtain ⟨o, ho, hc, _⟩ := ht
  rw [show h.get? a = some _ from he] at ho
  cases ho
  injection hc with hc
  exact absurd hc (by decide)
theorem tupIter_not_tup {h : Heap} {it t a : Addr} {i : Nat} {items : Array Value} (hi : h.IsTupleIter it t i) (ht : IsTup h a items) : a ≠ it := by
  rintro rfl
  obtain ⟨o, ho, hc, _⟩ := ht
  obtain ⟨o', ho', hc', _⟩ := hi
  rw [ho] at ho'
  cases ho'
  rw [hc] at hc'
  injection hc' with hc'
  exact absurd hc' (by decide)
theorem turn_enumT {P : Program} {w : World} {K : PySem.W.Frag} {elts : List Expr} {kk : Nat} {tpos : Pos} (a e it : Addr) :
    Turn P w K (.Tuple elts kk tpos) (IteT K a) [e, it] e (fun i h => (∃ old, IsEnum h e it ((i : Nat) : Int) old) ∧ h.IsTupleIter it a i ∧ e ≠ it) where
  mem := by simp
  obj := fun i h st b hb => by
    obtain ⟨⟨old, he⟩, ⟨o, ho, hc, hd⟩, _⟩ := st
    rcases (show b = e ∨ b = it by simpa using hb) with z | z
    · subst z; exact ⟨_, he, fun v q => nomatch q⟩
    · subst z; exact ⟨o, ho, fun v q => by rw [hd] at q; cases q⟩
  keep := fun i h h' st k => by
    obtain ⟨⟨old, he⟩, hi, hne⟩ := st
    exact ⟨⟨old, k e (by simp) _ he⟩, hi.at fun o q => k it (by simp) o q, hne⟩
  item := by
    intro X hP hw hK hc i pins s σ H E I hf st hg
    subst hP hw hK
    obtain ⟨⟨old, he⟩, hit, hne⟩ := st
    obtain ⟨xs, x, hq, hx⟩ := hg
    obtain ⟨its, rv, p, hz⟩ := I.tuple hq
    obtain ⟨u, hu, ru⟩ := rv.get hx
    have hel : e < s.heap.objs.size := Heap.lt_size he
    have hil : it < s.heap.objs.size := by obtain ⟨_, q, _⟩ := hit; exact Heap.lt_size q
    have n1 := enum_not_tup he p
    have n2 := tupIter_not_tup hit p
    have hlt : i < its.toArray.size := by
      rw [List.size_toArray]
      exact (List.getElem?_eq_some_iff.mp hu).1
    refine wpAny_pyNext_enum_itemD (Draws.tuple (prog := X.prog) (w := X.w) (A := X.A.in1) (I.ok.hd hc) it a n2 its.toArray) he ⟨hit, p⟩ hlt hne
      (by simp only [List.mem_cons, List.not_mem_nil, or_false, not_or]; exact ⟨hne, fun z => n1 z.symm⟩) fun y h' tk hy ho hit' hT hsz hk => ?_
    have ey : y = u := by
      have : its.toArray[i]? = some u := by simpa using hu
      rw [this] at hy
      exact (Option.some.inj hy).symm
    subst ey
    refine ⟨_, rfl, wpAny_letOwnedTupleGo_enum (s := { s with heap := h', toks := tk + 1 }) ho fun h'' he' sb => ?_⟩
    have hT2 : h''.get? s.heap.objs.size = some { cls := .type "tuple", data := .seq #[.int i tk, y] } := (sb.2 _ (Nat.ne_of_gt hel)).trans hT
    have new : ObjOk X.prog X.w (upd H s.heap.objs.size (.tup [.int (i : Nat), x])) h'' s.heap.objs.size (.tup [.int (i : Nat), x]) :=
      ⟨by show 2 ≤ sizeLine; decide, [.int i tk, y], .cons ⟨_, rfl⟩ (.cons ru .nil), ⟨_, hT2, rfl, _, rfl⟩⟩
    have I1 := I.turnedNew (h' := h'') (t' := tk + 1) (ch := [e, it]) (fun b ob hb q => by
      have hb1 : b ≠ e := fun z => hb (by simp [z])
      have hb2 : b ≠ it := fun z => hb (by simp [z])
      exact (sb.2 b hb1).trans (hk b ob hb1 hb2 q)) hf (Nat.le_refl _) new
    refine ⟨.ref s.heap.objs.size, _, I1, rfl, ⟨_, x, rfl, I.hok.fresh (Nat.le_refl _), rfl, fun ys hy => by rw [I.tuple_inj hy hq]; exact hx⟩, ⟨⟨y, ?_⟩, hit'.1.at fun o q => (sb.2 it (Ne.symm hne)).trans q, hne⟩, fun b hb => ?_⟩
    · rw [show ((i + 1 : Nat) : Int) = (i : Int) + 1 by omega]
      exact he'
    · have hb' : b < s.heap.objs.size := by
        rcases (show b = e ∨ b = it by simpa using hb) with z | z
        · rw [z]; exact hel
        · rw [z]; exact hil
      rw [upd_ne (Nat.ne_of_lt hb')]
      exact (hf b hb).1
  done := by
    intro X hP hw hK hc i pins s σ H E I hf st hg
    subst hP hw hK
    obtain ⟨⟨old, he⟩, hit, hne⟩ := st
    obtain ⟨xs, hq, hx⟩ := hg
    obtain ⟨its, rv, p, hz⟩ := I.tuple hq
    have n2 := tupIter_not_tup hit p
    have hl := rv.length
    have ei : i = its.toArray.size := by
      rw [List.size_toArray]
      omega
    subst ei
    exact wpAny_pyNext_enum_endD (Draws.tuple (prog := X.prog) (w := X.w) (A := X.A.in1) (I.ok.hd hc) it a n2 its.toArray) he ⟨hit, p⟩ fun h' eb => ⟨rfl, I.turned (t' := s.toks) (fun b o hb q => eb b o hb q) (hf it (by simp)).1 (hf it (by simp)).2.1 (hf it (by simp)).2.2.2.1 (hf it (by simp)).2.2.2.2.1 (hf it (by simp)).2.2.2.2.2⟩
  self := fun A i s Q E st h => by
    obtain ⟨⟨_, he⟩, _⟩ := st
    exact wpAny_pyIter_enum he h
/-! the call -/
theorem meets_enumerate_newT (l : Addr) (items : Array Value) :
    Meets (Builtin.«enumerate.__new__» ⟨[.type "enumerate", .ref l], []⟩) (fun _ R s => s.heap.IsTuple l items ∧
      R (.ok (.ret (.ref (s.heap.push { cls := .type "tuple_iterator", data := .fields #[.ref l, .int 0 0] }).objs.size)))
        { s with heap := (s.heap.push { cls := .type "tuple_iterator", data := .fields #[.ref l, .int 0 0] }).push { cls := .type "enumerate", data := .fields #[.none, .bool false, .ref s.heap.objs.size, rawInt 0, .none, .none] } }) :=
  .of_wp fun prog w A R s h => by
    obtain ⟨hp, g, d, tk, os⟩ := s
    obtain ⟨ht, h⟩ := h
    have hsub := sub_enumerate
    have q1 : ∀ {A' : Around} {E : Value → Shared → Prop} {Q : Value → Shared → Prop}, Q (.ref hp.objs.size) ⟨hp.push { cls := .type "tuple_iterator", data := .fields #[.ref l, .int 0 0] }, g, d, tk, os⟩ → wpAny (model prog w) A' (pyIter (.ref l)) Q E ⟨hp, g, d, tk, os⟩ :=
      fun q => wpAny_pyIter_tuple ht q
    wp_walk using q1
    refine wpAny_stack_any fun st => wpAny_pure ?_
    split
    · rename_i c _ _ _ _ _
      cases (c == Value.type "enumerate") <;> (wp_walk using q1; exact ⟨_, rfl, h⟩)
    · wp_walk using q1
      exact ⟨_, rfl, h⟩
section
variable {prog : Program} {w : World} {A : Around} {E : Value → Shared → Prop} {s : Shared}
theorem call_enumerate_tup {l : Addr} {items : Array Value} {Q : Value → Shared → Prop} (ht : s.heap.IsTuple l items)
    (h : ∀ h', IsEnum h' (s.heap.objs.size + 1) s.heap.objs.size 0 .none → h'.IsTupleIter s.heap.objs.size l 0 → (∀ b o, s.heap.get? b = some o → h'.get? b = some o) → Q (.ref (s.heap.objs.size + 1)) { s with heap := h' }) :
    wpAny (model prog w) A (call (.type "enumerate") [.ref l]) Q E s := by
  refine callType_new F.called_enumerate (by decide) (F.typeCall_enumerate_1 _) (F.newCall_enumerate_1 _) (fun obj => F.args_object_init_2 obj _) F.entry_enumerate_new (meets_enumerate_newT l items) ⟨ht, ?_⟩
  have hz : (s.heap.push { cls := .type "tuple_iterator", data := .fields #[.ref l, .int 0 0] }).objs.size = s.heap.objs.size + 1 := Heap.size_push ..
  show _ ∧ _
  rw [hz]
  have he : IsEnum ((s.heap.push { cls := .type "tuple_iterator", data := .fields #[.ref l, .int 0 0] }).push
      { cls := .type "enumerate", data := .fields #[.none, .bool false, .ref s.heap.objs.size, rawInt 0, .none, .none] }) (s.heap.objs.size + 1) s.heap.objs.size 0 .none := by
    have z := Heap.get?_push_size (s.heap.push { cls := .type "tuple_iterator", data := .fields #[.ref l, .int 0 0] })
      (o := { cls := .type "enumerate", data := .fields #[.none, .bool false, .ref s.heap.objs.size, rawInt 0, .none, .none] }) rfl
    rw [hz] at z
    exact z
  exact ⟨⟨_, he, rfl⟩, h _ he ⟨_, Heap.get?_push_of_some _ (Heap.get?_push_size _ rfl), rfl, rfl⟩ fun b o x => Heap.get?_push_of_some _ (Heap.get?_push_of_some _ x)⟩
end
def iEnumT (K : PySem.W.Frag) (ta : TA) : TI := fun σ H R => ta σ H fun vs H1 => ∃ a xs, vs = [.ref a] ∧ SqT K H1 a xs ∧ R (IteT K a) H1
theorem pi_enumT {X : Cx} {e : Expr} {ta : TA} {p pos tpos : Pos} {elts : List Expr} {kk : Nat} (hg : Gl X "enumerate") (hm : X.mg "enumerate" = none) (ha : PA X [e] ta) (hs : starEach [e] X.env = [(false, eval e X.env)] := by rfl) :
    PI X (.Tuple elts kk tpos) (.Call (.Name "enumerate" p) [e] [] pos) (iEnumT X.K ta) := by
  refine ⟨fun pins s σ H R I h => ?_⟩
  refine Call_ (ld_blt I hg hm boot_enumerate (PyProof.Rows.callWith_type1 (thn (ha.run pos pins s σ H _ I h) fun us s1 ⟨vs, H1, I1, r1, q1⟩ => ?_) hs rfl))
  obtain ⟨a, xs, ex, hq, q⟩ := q1
  subst ex
  rw [Vals.ref1 r1]
  obtain ⟨its, rv, p', hz⟩ := I1.tuple hq
  refine call_enumerate_tup (show s1.heap.IsTuple a its.toArray from p') fun h' he hit hk => wpAny_pyIter_enum he ?_
  refine ⟨s1.heap.objs.size + 1, [s1.heap.objs.size + 1, s1.heap.objs.size], _, _, H1, rfl, I1.kept (t' := s1.toks) hk, turn_enumT a (s1.heap.objs.size + 1) s1.heap.objs.size, ⟨⟨.none, he⟩, hit, Nat.succ_ne_self _⟩, fun b hb => ?_, q⟩
  have hle : s1.heap.objs.size ≤ b := by
    rcases (show b = s1.heap.objs.size + 1 ∨ b = s1.heap.objs.size by simpa using hb) with z | z
    · rw [z]; exact Nat.le_succ _
    · rw [z]; exact Nat.le_refl _
  exact I1.fpOk hle (I1.hok.fresh hle)
theorem walk_enumT {K : PySem.W.Frag} {a : Addr} {xs : List V} : Walk (IteT K a) xs.length (fun H => SqT K H a xs) (YPair (fun i => some (.int (i : Nat))) (fun i => xs[i]?)) := by
  refine ⟨fun i _ hi q => ⟨xs, xs[i], q, by simp [hi]⟩, fun _ q => ⟨xs, q, rfl⟩, fun i H v H' _ q y => ?_⟩
  obtain ⟨T, x, h1, h2, h3, h4⟩ := y
  exact ⟨T, .int (i : Nat), x, h1, h2, h3, rfl, h4 xs q⟩
end Rg

namespace Rg
open PySem PySem.Spec PyProof.Rows L2
section
variable {P : Program} {w : World} {K : PySem.W.Frag} {mg : Str → Option Value} {base : Heap}
/-! ### is_number -/
theorem scIsNum : FnScope ["thing"] ["thing"] (defScope (topS 7)) := ⟨rfl, rfl, rfl, by decide +kernel, rfl, by decide +kernel, by decide +kernel⟩
def spIsNum : Sp := fun vs H Q _ => ∃ (t : T) (v : V), vs = [v] ∧ TAt H t v ∧ ∀ H', Same H H' → Q (.bl t.isLeaf) H'
theorem ty_tup {H : Hp} {l r : T} {v : V} (h : TAt H (.node l r) v) : TyX K H v (.type "tuple") := by
  obtain ⟨a, x, y, rfl, h1, _⟩ := h
  exact .base (.tup h1)
theorem ty_leaf {H : Hp} {n : Nat} {v : V} (h : TAt H (.leaf n) v) : TyX K H v (.type "int") := by
  obtain rfl : v = vn n := h
  exact .base (.int _)
theorem has_isnum (B : Bi mg) (A : At K mg "is_number" (topS 7)) : Has P w K mg base "is_number" 1 spIsNum := by
  refine has_of A scIsNum (fun _ _ _ _ _ _ us hl => match us, hl with | [_], _ => rfl) (fun vs H Q E h => ?_) (fun f cdv A outer s H vs Q E hr h => ?_)
  · obtain ⟨t, v, rfl, _⟩ := h
    rfl
  · obtain ⟨t, v, rfl, ht, q⟩ := h
    refine ⟨_, pss_one (ps_ret (pe_and (pe_callB call_isi (by rfl) B.isinstance PyProof.Rows.boot_isinstance (pa_cons (pv 0) (pa_cons (pe_bltn (v := .ty "int") (by rfl) B.int (by decide +kernel) rfl) pa_nil)))
      (pe_one (pe_not (pe_callB call_isi (by rfl) B.isinstance PyProof.Rows.boot_isinstance (pa_cons (pv 0) (pa_cons (pe_bltn (v := .ty "bool") (by rfl) B.bool (by decide +kernel) rfl) pa_nil))))))), ?_⟩
    cases t with
    | leaf n =>
      refine ⟨v, rfl, v, .ty "int", _, _, true, rfl, .ty _, ty_leaf ht, kit_ty (by decide +kernel), true, rfl, iteT ?_⟩
      refine ⟨v, rfl, v, .ty "bool", _, _, false, rfl, .ty _, ty_leaf ht, kit_ty (by decide +kernel), false, rfl, ?_⟩
      exact q H (Same.refl H)
    | node l r =>
      refine ⟨v, rfl, v, .ty "int", _, _, false, rfl, .ty _, ty_tup ht, kit_ty (by decide +kernel), false, rfl, iteF ?_⟩
      exact q H (Same.refl H)
end
end Rg

namespace Rg
open PySem PySem.Spec PyProof.Rows L2
section
variable {P : Program} {w : World} {K : PySem.W.Frag} {mg : Str → Option Value} {base : Heap}
/-! ### ends -/
theorem scEnds : FnScope ["grouping", "one", "other"] ["grouping"] (defScope (topS 10)) := ⟨rfl, rfl, rfl, by decide +kernel, rfl, by decide +kernel, by decide +kernel⟩
def spEnds : Sp := fun vs H Q _ => ∃ (t : T) (v : V), vs = [v] ∧ TAt H t v ∧ ∀ p H', Same H H' → H' p = some (.tup [vn t.fst, vn t.lst]) → Q (.ref p) H'
theorem has_ends (A : At K mg "ends" (topS 10)) (hN : Has P w K mg base "is_number" 1 spIsNum) : Has P w K mg base "ends" 2 spEnds := by
  refine has_of A scEnds (fun _ _ _ _ _ _ us hl => match us, hl with | [_], _ => rfl) (fun vs H Q E h => ?_) (fun f cdv A outer s H vs Q E hr h => ?_)
  · obtain ⟨t, v, rfl, _⟩ := h
    rfl
  · obtain ⟨t, v, rfl, ht, q⟩ := h
    refine ⟨_, pss_cons (ps_par (i := 1) (j := 2) rfl scEnds.nd rfl rfl (by decide) rfl rfl (pa_cons (pv 0) (pa_cons (pv 0) pa_nil)) (by rfl))
      (pss_cons (ps_while PassesOwn.never (pt_not (pt_val (pe_c hN hr (pa_cons (pv 1) pa_nil)))) (pss_one (ps_set (i := 1) scEnds.nd rfl (.inl rfl) (pe_ix ix_tup (pv 1) pe_int (fun _ _ => rfl)))))
      (pss_cons (ps_while PassesOwn.never (pt_not (pt_val (pe_c hN hr (pa_cons (pv 2) pa_nil)))) (pss_one (ps_set (i := 2) scEnds.nd rfl (.inl rfl) (pe_ix ix_tup (pv 2) pe_int (fun _ _ => rfl)))))
      (pss_one (ps_ret (pe_tup (pa_cons (pv 1) (pa_cons (pv 2) pa_nil))))))), ?_⟩
    refine ⟨v, rfl, v, rfl, v, v, rfl, ?_⟩
    refine ⟨fun m σ H' => ∃ t1 v1, σ = [some v, some v1, some v] ∧ TAt H' t1 v1 ∧ t1.ht = m ∧ t1.fst = t.fst ∧ Same H H', ⟨_, t, v, rfl, ht, rfl, rfl, Same.refl H⟩, fun m σ H1 hW => ?_⟩
    obtain ⟨t1, v1, rfl, ht1, rfl, hf, s1⟩ := hW
    refine ⟨v1, rfl, t1, v1, rfl, ht1, fun H2 s2 => ⟨_, rfl, ?_⟩⟩
    cases t1 with
    | node l r =>
      obtain ⟨a, x, y, rfl, h1, h2, h3⟩ := ht1.mono s2
      refine iteT ⟨fun σ' H' => ∃ t1 v1, σ' = [some v, some v1, some v] ∧ TAt H' t1 v1 ∧ t1.ht < (T.node l r).ht ∧ t1.fst = t.fst ∧ Same H H', fun σ' H' hN' => ?_, ?_⟩
      · obtain ⟨t2, v2, e, h4, h5, h6, h7⟩ := hN'
        exact ⟨_, h5, t2, v2, e, h4, rfl, h6, h7⟩
      · refine ⟨_, rfl, a, _, 0, x, rfl, rfl, SqT.of h1, atI_nat (j := 0) rfl, ?_⟩
        exact ⟨l, x, rfl, h2, by show l.ht < max l.ht r.ht + 1; omega, hf, s1.trans s2⟩
    | leaf n =>
      obtain rfl : v1 = vn n := ht1
      refine iteF ?_
      refine ⟨fun m σ H' => ∃ t1 v1, σ = [some v, some (vn n), some v1] ∧ TAt H' t1 v1 ∧ t1.ht = m ∧ t1.lst = t.lst ∧ Same H H', ⟨_, t, v, rfl, ht.mono (s1.trans s2), rfl, rfl, s1.trans s2⟩, fun m σ H3 hW => ?_⟩
      obtain ⟨t1, v1, rfl, ht1, rfl, hl, s3⟩ := hW
      refine ⟨v1, rfl, t1, v1, rfl, ht1, fun H4 s4 => ⟨_, rfl, ?_⟩⟩
      cases t1 with
      | node l r =>
        obtain ⟨a, x, y, rfl, h1, h2, h3⟩ := ht1.mono s4
        refine iteT ⟨fun σ' H' => ∃ t1 v1, σ' = [some v, some (vn n), some v1] ∧ TAt H' t1 v1 ∧ t1.ht < (T.node l r).ht ∧ t1.lst = t.lst ∧ Same H H', fun σ' H' hN' => ?_, ?_⟩
        · obtain ⟨t2, v2, e, h4, h5, h6, h7⟩ := hN'
          exact ⟨_, h5, t2, v2, e, h4, rfl, h6, h7⟩
        · refine ⟨_, rfl, a, _, 1, y, rfl, rfl, SqT.of h1, atI_nat (j := 1) rfl, ?_⟩
          exact ⟨r, y, rfl, h3, by show r.ht < max l.ht r.ht + 1; omega, hl, s3.trans s4⟩
      | leaf n2 =>
        obtain rfl : v1 = vn n2 := ht1
        refine iteF ?_
        refine ⟨_, rfl, _, rfl, (by show 2 ≤ sizeLine; decide), fun p hp => ?_⟩
        refine q p _ ((s3.trans s4).trans (same_new hp)) ?_
        have e1 : n = t.fst := hf
        have e2 : n2 = t.lst := hl
        rw [upd_same, ← e1, ← e2]
end
end Rg

namespace Rg
open PySem PySem.Spec PyProof.Rows L2
theorem pairedApp {α β : Type} {F : α → β → Prop} : ∀ {a b : List α} {c d : List β}, Paired F a c → Paired F b d → Paired F (a ++ b) (c ++ d)
  | _, _, _, _, .nil, h => h
  | _, _, _, _, .cons h t, h' => .cons h (pairedApp t h')
theorem pairedMap {α β : Type} {F G : α → β → Prop} (i : ∀ a b, F a b → G a b) {a : List α} {b : List β} (h : Paired F a b) : Paired G a b := Paired.mapP h i
theorem pairedGet {α β : Type} {F : α → β → Prop} : ∀ {a : List α} {b : List β} {i : Nat} {x : β}, Paired F a b → b[i]? = some x → ∃ y, a[i]? = some y ∧ F y x
  | _, _, _, _, .nil, e => by simp at e
  | _, _, 0, _, .cons h _, e => by simp at e; subst e; exact ⟨_, rfl, h⟩
  | _, _, i + 1, x, .cons _ t, e => by
    obtain ⟨y, h1, h2⟩ := pairedGet (i := i) (x := x) t (by simpa using e)
    exact ⟨y, by simpa using h1, h2⟩
theorem pairedGet' {α β : Type} {F : α → β → Prop} : ∀ {a : List α} {b : List β} {i : Nat} {y : α}, Paired F a b → a[i]? = some y → ∃ x, b[i]? = some x ∧ F y x
  | _, _, _, _, .nil, e => by simp at e
  | _, _, 0, _, .cons h _, e => by simp at e; subst e; exact ⟨_, rfl, h⟩
  | _, _, i + 1, x, .cons _ t, e => by
    obtain ⟨y, h1, h2⟩ := pairedGet' (i := i) (y := x) t (by simpa using e)
    exact ⟨y, by simpa using h1, h2⟩
/-- a triple of numbers -/
def TripAt (H : Hp) (s : Nat × Nat × Nat) (x : V) : Prop := ∃ a, x = .ref a ∧ H a = some (.tup [vn s.1, vn s.2.1, vn s.2.2])
theorem TripAt.mono {H H' : Hp} (s : Same H H') {t : Nat × Nat × Nat} {v : V} (h : TripAt H t v) : TripAt H' t v := by
  obtain ⟨a, e, h⟩ := h
  exact ⟨a, e, s _ _ h⟩
theorem T.spans_len : ∀ t : T, t.spans.length = t.reach.length
  | .leaf _ => rfl
  | .node l r => by
    show (l.spans ++ (l.fst, l.lst, r.lst) :: r.spans).length = (l.reach ++ r.lst :: r.reach).length
    rw [List.length_append, List.length_append, List.length_cons, List.length_cons, T.spans_len l, T.spans_len r]
theorem T.spans_reach : ∀ t : T, t.spans.map (·.2.2) = t.reach
  | .leaf _ => rfl
  | .node l r => by
    show (l.spans ++ (l.fst, l.lst, r.lst) :: r.spans).map (·.2.2) = l.reach ++ r.lst :: r.reach
    rw [List.map_append, List.map_cons, T.spans_reach l, T.spans_reach r]
theorem T.reach_l {l r : T} {n : Nat} (h : (T.node l r).reach.length ≤ n) : l.reach.length + r.reach.length + 1 ≤ n := by
  have e : (l.reach ++ r.lst :: r.reach).length ≤ n := h
  rw [List.length_append, List.length_cons] at e
  omega
theorem T.ht_l {l r : T} {n : Nat} (h : (T.node l r).ht < n + 1) : l.ht < n ∧ r.ht < n := by
  have e : max l.ht r.ht + 1 < n + 1 := h
  omega
theorem sz1000 {n : Nat} (h : n ≤ 1000) : n ≤ sizeLine := Nat.le_of_lt (small1000 h)
section
variable {P : Program} {w : World} {K : PySem.W.Frag} {mg : Str → Option Value} {base : Heap}
/-! ### spans -/
theorem scSpans : FnScope ["grouping", "left", "right", "first", "join"] ["grouping"] (defScope (topS 11)) := ⟨rfl, rfl, rfl, by decide +kernel, rfl, by decide +kernel, by decide +kernel⟩
def spSpans (d : Nat) : Sp := fun vs H Q _ => ∃ (t : T) (v : V), vs = [v] ∧ TAt H t v ∧ t.ht < d ∧ t.reach.length ≤ 100 ∧ ∀ p xs H', Same H H' → H' p = some (.lst xs) → Paired (TripAt H') t.spans xs → Q (.ref p) H'
theorem has_spans (A : At K mg "spans" (topS 11)) (hN : Has P w K mg base "is_number" 1 spIsNum) (hE : Has P w K mg base "ends" 2 spEnds) : ∀ d, Has P w K mg base "spans" (d + 2) (spSpans d)
  | 0 => has_no A (ps := ["grouping"]) (fun _ _ _ _ _ _ us hl => match us, hl with | [_], _ => rfl) fun vs H Q E h => by
    obtain ⟨t, v, _, _, h, _⟩ := h
    exact absurd h (Nat.not_lt_zero _)
  | d + 1 => by
    have hS := has_spans A hN hE d
    refine has_of A scSpans (fun _ _ _ _ _ _ us hl => match us, hl with | [_], _ => rfl) (fun vs H Q E h => ?_) (fun f cdv A outer s H vs Q E hr h => ?_)
    · obtain ⟨t, v, rfl, _⟩ := h
      rfl
    · obtain ⟨t, v, rfl, ht, hd, hl, q⟩ := h
      refine ⟨_, pss_cons (ps_if (pt_val (pe_c hN hr (pa_cons (pv 0) pa_nil) (by omega))) (pss_one (ps_ret (pe_lst pa_nil))) pss_nil)
        (pss_cons (ps_par (i := 1) (j := 2) rfl scSpans.nd rfl rfl (by decide) rfl rfl (pa_cons (pe_c hS hr (pa_cons (pe_ix ix_tup (pv 0) pe_int (fun _ _ => rfl)) pa_nil) (by omega)) (pa_cons (pe_c hS hr (pa_cons (pe_ix ix_tup (pv 0) pe_int (fun _ _ => rfl)) pa_nil) (by omega)) pa_nil)) (by rfl))
        (pss_cons (ps_asg (pe_c hE hr (pa_cons (pe_ix ix_tup (pv 0) pe_int (fun _ _ => rfl)) pa_nil) (by omega)) (pg_tup (by rfl) (pgs_cons (pg_name (i := 3) scSpans.nd rfl (.inl rfl)) (pgs_cons (pg_name (i := 4) scSpans.nd rfl (.inl rfl)) pgs_nil))))
        (pss_one (ps_ret (pe_lst (StX.pa_star (pv 1) (pa_cons (pe_tup (pa_cons (pv 3) (pa_cons (pv 4) (pa_cons (pe_ix ix_tup (pe_c hE hr (pa_cons (pe_ix ix_tup (pv 0) pe_int (fun _ _ => rfl)) pa_nil) (by omega)) pe_int (fun _ _ => rfl)) pa_nil)))) (StX.pa_star (pv 2) pa_nil)))))))), ?_⟩
      refine ⟨v, rfl, t, v, rfl, ht, fun H1 s1 => ⟨_, rfl, ?_⟩⟩
      cases t with
      | leaf n =>
        refine iteT ⟨Nat.zero_le _, fun p hp => ?_⟩
        exact q p [] _ (s1.trans (same_new hp)) upd_same .nil
      | node l r =>
        refine iteF ?_
        have hl1 := T.reach_l hl
        have hd1 := T.ht_l hd
        obtain ⟨a, x, y, rfl, h1, h2, h3⟩ := ht.mono s1
        -- left, right
        refine ⟨_, rfl, a, _, 0, x, rfl, rfl, SqT.of h1, atI_nat (j := 0) rfl, l, x, rfl, h2, hd1.1, by omega, fun p1 xs1 H2 s2 e1 d1 => ?_⟩
        refine ⟨_, rfl, a, _, 1, y, rfl, rfl, SqT.of (s2 _ _ h1), atI_nat (j := 1) rfl, r, y, rfl, h3.mono s2, hd1.2, by omega, fun p2 xs2 H3 s3 e2 d2 => ?_⟩
        refine ⟨_, _, rfl, ?_⟩
        -- first, join
        have h13 := s3 _ _ (s2 _ _ h1)
        refine ⟨_, rfl, a, _, 0, x, rfl, rfl, SqT.of h13, atI_nat (j := 0) rfl, l, x, rfl, (h2.mono s2).mono s3, fun p3 H4 s4 e3 => ?_⟩
        refine ⟨p3, _, rfl, SqT.of e3, rfl, _, _, rfl, _, _, rfl, rfl, ?_⟩
        -- the list
        refine ⟨_, rfl, p1, xs1, rfl, .inr (SqL.of (s4 _ _ (s3 _ _ e1))), _, rfl, _, rfl, _, rfl, a, _, 1, y, rfl, rfl, SqT.of (s4 _ _ h13), atI_nat (j := 1) rfl, r, y, rfl, ((h3.mono s2).mono s3).mono s4, fun p4 H5 s5 e4 => ?_⟩
        refine ⟨p4, _, 1, vn r.lst, rfl, rfl, SqT.of e4, atI_nat (j := 1) rfl, (by show 3 ≤ sizeLine; decide), fun p5 n5 => ?_⟩
        have s6 := same_new (o := .tup [vn l.fst, vn l.lst, vn r.lst]) n5
        refine ⟨_, rfl, p2, xs2, rfl, .inr (SqL.of (s6 _ _ (s5 _ _ (s4 _ _ e2)))), ?_, fun p6 n6 => ?_⟩
        · have l1 := d1.length
          have l2 := d2.length
          rw [T.spans_len] at l1 l2
          refine sz1000 ?_
          rw [List.length_append, List.length_cons, List.length_append, List.length_nil]
          omega
        · rw [List.append_nil]
          have s7 := same_new (o := .lst (xs1 ++ V.ref p5 :: xs2)) n6
          have sAll : Same H3 _ := s4.trans (s5.trans (s6.trans s7))
          refine q p6 _ _ (s1.trans (s2.trans (s3.trans sAll))) upd_same ?_
          refine pairedApp (pairedMap (fun b z hz => hz.mono (s3.trans sAll)) d1) (.cons ⟨p5, rfl, s7 _ _ upd_same⟩ ?_)
          exact pairedMap (fun b z hz => hz.mono sAll) d2
end
end Rg

namespace Rg
open PySem PySem.Spec PyProof.Rows L2
/-- all tuples stand -/
def TupEx (H H' : Hp) : Prop := ∀ b xs, H b = some (.tup xs) → H' b = some (.tup xs)
theorem Same.tup {H H' : Hp} (s : Same H H') : TupEx H H' := fun b xs => s b _
theorem TupEx.trans {H H1 H2 : Hp} (a : TupEx H H1) (b : TupEx H1 H2) : TupEx H H2 := fun c xs h => b c xs (a c xs h)
theorem tupEx_upd {H : Hp} {p : Addr} {o u : HO} (h : H p = some u) (hu : ∀ xs, u ≠ .tup xs) : TupEx H (upd H p o) := fun b xs e => by
  rw [upd_ne (ne_of e h (fun z => hu xs z.symm))]
  exact e
theorem RowAt.tup {H H' : Hp} (s : TupEx H H') {r : List Nat} {v : V} (h : RowAt H r v) : RowAt H' r v := by
  obtain ⟨a, e, h⟩ := h
  exact ⟨a, e, s _ _ h⟩
theorem TAt.tup {H H' : Hp} (s : TupEx H H') {t : T} {v : V} (h : TAt H t v) : TAt H' t v := TAt.keep s h
/-- a comprehension that leaves all that stood: its list, item by item -/
theorem lc_gen {J : It} {n : Nat} {G : Hp → Prop} {Y : Nat → Hp → V → Hp → Prop} (w : Walk J n G Y) (hn : n ≤ 1000) {g : TG} {tt : TT} {te : TE} {vs : List Nat} {σ : L2.St} {H1 : Hp} {D : Addr} {Qd : Hp → Prop} (hD : H1 D = none)
    (R : Nat → Hp → V → Prop) (keep : Nat → Bool) (mono : ∀ i H H' v, TupEx H H' → R i H v → R i H' v) (hG : ∀ H, Same H1 H → G H)
    (turn : ∀ (i : Nat) (x : V) (H H' : Hp) (Ky : V → Hp → Prop) (Kn : Hp → Prop), i < n → Same H1 H → Y i H x H' → (keep i = true → ∀ y H4, Same H H4 → R i H4 y → Ky y H4) → (keep i = false → ∀ H3, Same H H3 → Kn H3) →
      g x (wipe σ vs) H' fun σ2 H2 => wipe σ2 vs = wipe σ vs ∧ tt σ2 H2 fun b H3 => if b = true then te σ2 H3 Ky else Kn H3)
    (fin : ∀ xs H, Same H1 H → H D = some (.lst xs) → Paired (fun i x => R i H x) ((List.range n).filter keep) xs → Qd H) :
    ∃ W : Nat → Nat → Hp → Prop, (∃ m, W 0 m (upd H1 D (.lst []))) ∧ ∀ i m H, W i m H →
      (J.stop i H ∧ Qd H) ∨ (J.go i H ∧ ∃ Nx : Hp → Prop, (∀ H', Nx H' → ∃ m', m' < m ∧ W (i + 1) m' H') ∧ ∀ x H', J.yld i H x H' → g x (wipe σ vs) H' fun σ2 H2 => wipe σ2 vs = wipe σ vs ∧ tt σ2 H2 fun b H3 =>
        if b = true then te σ2 H3 fun y H4 => ∃ acc, H4 D = some (.lst acc) ∧ acc.length < sizeLine ∧ Nx (upd H4 D (.lst (acc ++ [y]))) else Nx H3) := by
  refine lc_it w (fun i H => Same H1 H ∧ i ≤ n ∧ ∃ xs, H D = some (.lst xs) ∧ Paired (fun i x => R i H x) ((List.range i).filter keep) xs)
    ⟨same_new hD, Nat.zero_le _, [], upd_same, .nil⟩ (fun i H _ p => hG H p.1) (fun i x H H' hi p y => ?_) (fun H p => ?_)
  · obtain ⟨p1, _, xs, p3, p4⟩ := p
    have er : List.range (i + 1) = List.range i ++ [i] := List.range_succ
    refine turn i x H H' _ _ hi p1 y (fun hk y4 H4 s4 r4 => ⟨xs, s4 _ _ p3, ?_, Same.mut (Same.trans p1 s4) hD, hi, xs ++ [y4], upd_same, ?_⟩) (fun hk H3 s3 => ⟨p1.trans s3, hi, xs, s3 _ _ p3, ?_⟩)
    · have h1 := p4.length
      have h2 := List.length_filter_le keep (List.range i)
      rw [List.length_range] at h2
      exact small1000 (by omega)
    · have hT : TupEx H (upd H4 D (.lst (xs ++ [y4]))) := TupEx.trans (Same.tup s4) (tupEx_upd (s4 _ _ p3) (fun xs z => nomatch z))
      rw [er, List.filter_append, List.filter_cons, if_pos hk]
      exact pairedApp (pairedMap (fun j v h => mono j _ _ v hT h) p4) (.cons (mono i _ _ y4 (tupEx_upd (s4 _ _ p3) (fun xs z => nomatch z)) r4) .nil)
    · rw [er, List.filter_append, List.filter_cons, if_neg (by rw [hk]; decide)]
      show Paired _ (_ ++ []) xs
      rw [List.append_nil]
      exact pairedMap (fun j v h => mono j H H3 v (Same.tup s3) h) p4
  · obtain ⟨p1, _, xs, p3, p4⟩ := p
    exact fin xs H p1 p3 p4
theorem yes_el {te : TE} {σ : L2.St} {H : Hp} {Ky : V → Hp → Prop} {Kn : Hp → Prop} (h : te σ H Ky) : tYes σ H fun b H3 => if b = true then te σ H3 Ky else Kn H3 := by
  show te σ H Ky
  exact h
end Rg

namespace Rg
open PySem PySem.Spec PyProof.Rows L2
theorem pairedEq {α β : Type} {f : α → β} : ∀ {a : List α} {b : List β}, Paired (fun i x => x = f i) a b → b = a.map f
  | _, _, .nil => rfl
  | _, _, .cons h t => by rw [List.map_cons, ← pairedEq t, h]
theorem range_yes (n : Nat) : (List.range n).filter (fun _ => true) = List.range n := List.filter_eq_self.mpr fun _ _ => rfl
theorem range_get {α β : Type} (l : List α) (d : α) (g : α → β) : (List.range l.length).map (fun i => g (l.getD i d)) = l.map g := by
  apply List.ext_getElem
  · simp
  · intro i h1 h2
    simp at h1 h2
    simp [h1]
theorem getD_of {α : Type} {l : List α} {i : Nat} {x d : α} (h : l[i]? = some x) : l.getD i d = x := by
  rw [List.getD_eq_getElem?_getD, h]
  rfl
/-- a tuple's three names -/
theorem g3 {K : PySem.W.Frag} {i j k : Nat} {a : Addr} {x y z : V} {σ : L2.St} {H : Hp} {Q : L2.St → Hp → Prop} (h : H a = some (.tup [x, y, z])) (q : Q (((σ.set i (some x)).set j (some y)).set k (some z)) H) :
    gTup K 3 (gCons (gName i) (gCons (gName j) (gCons (gName k) gNil))) (.ref a) σ H Q :=
  ⟨a, _, rfl, SqT.of h, rfl, _, _, rfl, _, _, rfl, _, _, rfl, rfl, q⟩
theorem g2 {K : PySem.W.Frag} {i j : Nat} {a : Addr} {x y : V} {σ : L2.St} {H : Hp} {Q : L2.St → Hp → Prop} (h : H a = some (.tup [x, y])) (q : Q ((σ.set i (some x)).set j (some y)) H) :
    gTup K 2 (gCons (gName i) (gCons (gName j) gNil)) (.ref a) σ H Q :=
  ⟨a, _, rfl, SqT.of h, rfl, _, _, rfl, _, _, rfl, rfl, q⟩
section
variable {P : Program} {w : World} {K : PySem.W.Frag} {mg : Str → Option Value} {base : Heap}
/-! ### reaches -/
theorem scReaches : FnScope ["grouping", "first", "join", "last"] ["grouping"] (defScope (topS 12)) := ⟨rfl, rfl, rfl, by decide +kernel, rfl, by decide +kernel, by decide +kernel⟩
def spReaches : Sp := fun vs H Q _ => ∃ (t : T) (v : V), vs = [v] ∧ TAt H t v ∧ t.ht < 8 ∧ t.reach.length ≤ 100 ∧ ∀ p H', Same H H' → H' p = some (.tup (rowV t.reach)) → Q (.ref p) H'
theorem has_reaches (B : Bi mg) (A : At K mg "reaches" (topS 12)) (hS : Has P w K mg base "spans" 10 (spSpans 8)) : Has P w K mg base "reaches" 11 spReaches := by
  refine has_of A scReaches (fun _ _ _ _ _ _ us hl => match us, hl with | [_], _ => rfl) (fun vs H Q E h => ?_) (fun f cdv A outer s H vs Q E hr h => ?_)
  · obtain ⟨t, v, rfl, _⟩ := h
    rfl
  · obtain ⟨t, v, rfl, ht, hd, hl, q⟩ := h
    refine ⟨_, pss_one (ps_ret (pe_callTy call_tuple_of (by rfl) B.tuple (by decide +kernel) (pa_cons
      (pe_lc (own := [("first", 1), ("join", 2), ("last", 3)]) (g := gTup K 3 (gCons (gName 1) (gCons (gName 2) (gCons (gName 3) gNil)))) (tt := tYes) (by rfl) scReaches.nd (pi_list (pe_c hS hr (pa_cons (pv 0) pa_nil)))
        (blkOk_by (own := [("first", 1), ("join", 2), ("last", 3)]) (N := ["grouping", "first", "join", "last"]) (sc := defScope (topS 12)) (by decide +kernel))
        (fun _ _ _ _ _ => pg_tup (by rfl) (pgs_cons (pg_name (i := 1) scReaches.nd rfl (Or.inl rfl)) (pgs_cons (pg_name (i := 2) scReaches.nd rfl (Or.inl rfl)) (pgs_cons (pg_name (i := 3) scReaches.nd rfl (Or.inl rfl)) pgs_nil))))
        (fun _ _ _ _ _ => pts_nil) (fun _ _ _ _ _ => pv 3)) pa_nil))), ?_⟩
    refine ⟨v, rfl, t, v, rfl, ht, hd, hl, fun p xs H1 s1 h1 d1 => ⟨p, rfl, ⟨_, SqL.of h1⟩, fun D hD => ?_⟩⟩
    have hlen : xs.length = t.reach.length := by rw [← d1.length, T.spans_len]
    refine lc_gen (walk_list (K := K) (a := p) (xs := xs)) (by omega) hD (fun i H x => x = vn (t.reach.getD i 0)) (fun _ => true) (fun _ _ _ _ _ h => h) (fun H s => SqL.of (s _ _ h1))
      (fun i x H2 H3 Ky Kn hi s2 hy ky kn => ?_) (fun ys H2 s2 hD2 d2 => ?_)
    · obtain ⟨rfl, hx⟩ := hy
      obtain ⟨y, hy, a, rfl, ha⟩ := pairedGet d1 hx
      refine g3 (s2 _ _ ha) ⟨rfl, yes_el ⟨_, rfl, ky rfl _ _ (Same.refl _) ?_⟩⟩
      have e : t.reach[i]? = some y.2.2 := by rw [← T.spans_reach, List.getElem?_map, hy]; rfl
      rw [getD_of e]
    · refine ⟨D, ys, rfl, .inl ⟨SqL.of hD2, fun l hl2 => ?_⟩⟩
      rw [range_yes, hlen] at d2
      have e : ys = rowV t.reach := (pairedEq d2).trans (range_get t.reach 0 vn)
      refine q l _ (s1.trans (s2.trans (same_new hl2))) ?_
      rw [upd_same, e]
end
end Rg

namespace Rg
open PySem PySem.Spec PyProof.Rows L2
/-- a tree of a size that all defs take -/
def TOk (H : Hp) (t : T) (v : V) : Prop := TAt H t v ∧ t.ht < 8 ∧ t.reach.length ≤ 100
theorem TOk.mono {H H' : Hp} (s : Same H H') {t : T} {v : V} (h : TOk H t v) : TOk H' t v := ⟨h.1.mono s, h.2⟩
section
variable {P : Program} {w : World} {K : PySem.W.Frag} {mg : Str → Option Value} {base : Heap}
/-! ### check_alike -/
theorem scAlike : FnScope ["groupings", "sizes", "grouping", "size"] ["groupings"] (defScope (topS 14)) := ⟨rfl, rfl, rfl, by decide +kernel, rfl, by decide +kernel, by decide +kernel⟩
def spAlike : Sp := fun vs H Q _ => ∃ (a : Addr) (x y : V) (s t : T), vs = [.ref a] ∧ H a = some (.tup [x, y]) ∧ TOk H s x ∧ TOk H t y ∧ s.reach.length = t.reach.length ∧ ∀ H', Same H H' → Q .non H'
theorem has_alike (B : Bi mg) (A : At K mg "check_alike" (topS 14)) (hR : Has P w K mg base "reaches" 11 spReaches) : Has P w K mg base "check_alike" 12 spAlike := by
  refine has_of A scAlike (fun _ _ _ _ _ _ us hl => match us, hl with | [_], _ => rfl) (fun vs H Q E h => ?_) (fun f cdv A outer s H vs Q E hr h => ?_)
  · obtain ⟨a, x, y, s, t, rfl, _⟩ := h
    rfl
  · obtain ⟨a, x, y, t1, t2, rfl, ha, ⟨hx, hx1, hx2⟩, ⟨hy, hy1, hy2⟩, hl, q⟩ := h
    refine ⟨_, pss_cons (ps_set (i := 1) scAlike.nd rfl (Or.inr rfl)
        (pe_lc (own := [("grouping", 2)]) (g := gName 2) (tt := tYes) (by rfl) scAlike.nd (pi_tup (pv 0))
        (blkOk_by (own := [("grouping", 2)]) (N := ["groupings", "sizes", "grouping", "size"]) (sc := defScope (topS 14)) (by decide +kernel))
        (fun _ _ _ _ _ => pg_name (i := 2) scAlike.nd rfl (Or.inl rfl))
        (fun _ _ _ _ _ => pts_nil) (fun _ _ _ _ _ => pe_callB (cLen (K := K)) (by rfl) B.len PySem.boot_len (pa_cons (pe_c hR hr (pa_cons (pv 2) pa_nil)) pa_nil))))
      (pss_one (ps_if (pt_val (pe_callB (cr_any rfl) (by rfl) B.any (by decide +kernel) (pa_cons
        (pe_lc (own := [("size", 3)]) (g := gName 3) (tt := tYes) (by rfl) scAlike.nd (pi_list (pv 1))
        (blkOk_by (own := [("size", 3)]) (N := ["groupings", "sizes", "grouping", "size"]) (sc := defScope (topS 14)) (by decide +kernel))
        (fun _ _ _ _ _ => pg_name (i := 3) scAlike.nd rfl (Or.inl rfl))
        (fun _ _ _ _ _ => pts_nil) (fun _ _ _ _ _ => pe_cmpR op_ne (pv 3) (pe_ix (ixL (K := K)) (pv 1) pe_int (fun _ _ => rfl)) (nomark _))) pa_nil))) (pss_one ps_never) pss_nil)), ?_⟩
    refine ⟨_, rfl, a, rfl, ⟨_, SqT.of ha⟩, fun D hD => ?_⟩
    refine lc_gen (walk_tup (K := K) (a := a) (xs := [x, y])) (by show 2 ≤ 1000; decide) hD (fun i H z => z = vn t1.reach.length) (fun _ => true) (fun _ _ _ _ _ h => h) (fun H s => SqT.of (s _ _ ha))
      (fun i z H2 H3 Ky Kn hi s2 hy' ky kn => ?_) (fun ys H2 s2 hD2 d2 => ?_)
    · obtain ⟨rfl, hz⟩ := hy'
      refine ⟨rfl, yes_el ?_⟩
      have hT : ∃ t, TAt H3 t z ∧ t.ht < 8 ∧ t.reach.length ≤ 100 ∧ t.reach.length = t1.reach.length := by
        match i, hi, hz with
        | 0, _, hz => cases hz; exact ⟨t1, hx.mono s2, hx1, hx2, rfl⟩
        | 1, _, hz => cases hz; exact ⟨t2, hy.mono s2, hy1, hy2, hl.symm⟩
      obtain ⟨t, k1, k2, k3, k4⟩ := hT
      refine ⟨_, rfl, t, z, rfl, k1, k2, k3, fun p H4 s4 h4 => ⟨p, _, rfl, .inr (SqT.of h4), ky rfl _ _ s4 ?_⟩⟩
      show V.int (((rowV t.reach).length : Nat) : Int) = vn t1.reach.length
      rw [List.length_map, k4]
      rfl
    · have e : ys = [vn t1.reach.length, vn t1.reach.length] := pairedEq d2
      subst e
      refine ⟨_, rfl, D, rfl, ⟨_, SqL.of hD2⟩, fun D2 hD3 => ?_⟩
      refine lc_gen (walk_list (K := K) (a := D) (xs := [vn t1.reach.length, vn t1.reach.length])) (by show 2 ≤ 1000; decide) hD3 (fun i H z => z = .bl false) (fun _ => true) (fun _ _ _ _ _ h => h) (fun H s => SqL.of (s _ _ hD2))
        (fun i z H5 H3 Ky Kn hi s5 hy' ky kn => ?_) (fun zs H5 s5 hD5 d5 => ?_)
      · obtain ⟨rfl, hz⟩ := hy'
        have ez : z = vn t1.reach.length := by
          match i, hi, hz with
          | 0, _, hz => cases hz; rfl
          | 1, _, hz => cases hz; rfl
        subst ez
        refine ⟨rfl, yes_el ?_⟩
        refine ⟨_, rfl, _, rfl, D, _, 0, vn t1.reach.length, rfl, rfl, SqL.of (s5 _ _ hD2), atI_nat (j := 0) rfl, rfl, ky rfl _ _ (Same.refl _) ?_⟩
        rw [decide_eq_true rfl]
        rfl
      · have e : zs = [V.bl false, V.bl false] := pairedEq d5
        subst e
        refine ⟨D2, [false, false], rfl, SqL.of hD5, ⟨_, rfl, iteF ?_⟩⟩
        exact q _ (s2.trans s5)
end
end Rg

namespace Rg
open PySem PySem.Spec PyProof.Rows L2
theorem fitsL_get : ∀ {a b : List Nat} {i : Nat} {x y : Nat}, fitsL a b = true → a[i]? = some x → b[i]? = some y → x ≤ y
  | [], _, _, _, _, _, h, _ => by simp at h
  | _ :: _, [], _, _, _, _, _, h => by simp at h
  | x :: xs, y :: ys, 0, u, v, h, hu, hv => by
    simp at hu hv
    subst hu hv
    have h' : (Nat.ble x y && fitsL xs ys) = true := h
    rw [Bool.and_eq_true] at h'
    exact Nat.le_of_ble_eq_true h'.1
  | x :: xs, y :: ys, i + 1, u, v, h, hu, hv => by
    have h' : (Nat.ble x y && fitsL xs ys) = true := h
    rw [Bool.and_eq_true] at h'
    exact fitsL_get h'.2 (by simpa using hu) (by simpa using hv)
theorem row_at {r : List Nat} {i : Nat} {v : V} (h : (rowV r)[i]? = some v) : ∃ n, r[i]? = some n ∧ v = vn n := by
  rw [List.getElem?_map] at h
  obtain ⟨n, h1, h2⟩ := Option.map_eq_some_iff.mp h
  exact ⟨n, h1, h2.symm⟩
theorem row_get {r : List Nat} {i n : Nat} (h : r[i]? = some n) : (rowV r)[i]? = some (vn n) := by
  rw [List.getElem?_map, h]
  rfl
section
variable {P : Program} {w : World} {K : PySem.W.Frag} {mg : Str → Option Value} {base : Heap}
/-! ### why_not, leads_to, check_behind -/
theorem scWhy : FnScope ["one", "other", "far", "place", "reach"] ["one", "other"] (defScope (topS 15)) := ⟨rfl, rfl, rfl, by decide +kernel, rfl, by decide +kernel, by decide +kernel⟩
theorem scLeads : FnScope ["one", "other"] ["one", "other"] (defScope (topS 16)) := ⟨rfl, rfl, rfl, by decide +kernel, rfl, by decide +kernel, by decide +kernel⟩
theorem scBehind : FnScope ["one", "other"] ["one", "other"] (defScope (topS 17)) := ⟨rfl, rfl, rfl, by decide +kernel, rfl, by decide +kernel, by decide +kernel⟩
/-- two trees, the first of which leads to the second: r is what comes back -/
def spLead (r : V) : Sp := fun vs H Q _ => ∃ (x y : V) (s t : T), vs = [x, y] ∧ TOk H s x ∧ TOk H t y ∧ s.reach.length = t.reach.length ∧ goes s t = true ∧ ∀ H', Same H H' → Q r H'
theorem has_why (B : Bi mg) (A : At K mg "why_not" (topS 15)) (hR : Has P w K mg base "reaches" 11 spReaches) (hA : Has P w K mg base "check_alike" 12 spAlike) : Has P w K mg base "why_not" 13 (spLead .non) := by
  refine has_of A scWhy (fun _ _ _ _ _ _ us hl => match us, hl with | [_, _], _ => rfl) (fun vs H Q E h => ?_) (fun f cdv A outer s H vs Q E hr h => ?_)
  · obtain ⟨x, y, s, t, rfl, _⟩ := h
    rfl
  · obtain ⟨x, y, t1, t2, rfl, hx, hy, hl, hg, q⟩ := h
    refine ⟨_, pss_cons (ps_expr (pe_c hA hr (pa_cons (pe_tup (pa_cons (pv 0) (pa_cons (pv 1) pa_nil))) pa_nil)))
      (pss_cons (ps_set (i := 2) scWhy.nd rfl (Or.inl rfl) (pe_c hR hr (pa_cons (pv 1) pa_nil)))
      (pss_cons (ps_for PassesOwn.never rfl (pi_enumT (by rfl) B.enumerate (pa_cons (pe_c hR hr (pa_cons (pv 0) pa_nil)) pa_nil)) (pg_tup (by rfl) (pgs_cons (pg_name (i := 3) scWhy.nd rfl (Or.inl rfl)) (pgs_cons (pg_name (i := 4) scWhy.nd rfl (Or.inl rfl)) pgs_nil)))
        (pss_one (ps_if (pt_cmpR op_gt (pv 4) (pe_ix (ixT (K := K)) (pv 2) (pv 3) (fun _ _ => rfl)) (nomark _)) (pss_one (ps_ret (pe_op op_add (pv 3) pe_int))) pss_nil)))
      (pss_one (ps_ret pe_non)))), ?_⟩
    refine ⟨_, rfl, _, rfl, (by show 2 ≤ sizeLine; decide), fun p0 n0 => ?_⟩
    have s0 := same_new (o := .tup [x, y]) n0
    refine ⟨p0, x, y, t1, t2, rfl, upd_same, hx.mono s0, hy.mono s0, hl, fun H1 s1 => ?_⟩
    have s01 := s0.trans s1
    refine ⟨_, rfl, t2, y, rfl, hy.1.mono s01, hy.2.1, hy.2.2, fun p2 H2 s2 h2 => ?_⟩
    have s02 := s01.trans s2
    refine ⟨_, rfl, t1, x, rfl, hx.1.mono s02, hx.2.1, hx.2.2, fun p3 H3 s3 h3 => ⟨p3, _, rfl, SqT.of h3, ?_⟩⟩
    have s03 := s02.trans s3
    refine for_it (walk_enumT (K := K) (a := p3) (xs := rowV t1.reach)) (fun i σ H' => ∃ y3 y4, σ = [some x, some y, some (.ref p2), y3, y4] ∧ Same H3 H')
      ⟨_, _, rfl, Same.refl _⟩ (fun i σ H' _ p => by obtain ⟨_, _, _, sp⟩ := p; exact SqT.of (sp _ _ h3)) (fun i z σ H4 H5 hi p yv => ?_) (fun σ H4 p => ?_)
    · obtain ⟨y3, y4, rfl, sp⟩ := p
      obtain ⟨Tp, u, v, rfl, nT, rfl, hu, hv⟩ := yv
      cases hu
      obtain ⟨n, hn, rfl⟩ := row_at hv
      have sT := same_new (o := .tup [V.int (i : Nat), vn n]) nT
      refine g2 upd_same ?_
      have hil : i < t2.reach.length := by
        have := (List.getElem?_eq_some_iff.mp hn).1
        omega
      have hm : t2.reach[i]? = some t2.reach[i] := List.getElem?_eq_getElem hil
      have hle := fitsL_get hg hn hm
      refine ⟨_, rfl, _, rfl, _, rfl, p2, _, (i : Int), vn t2.reach[i], rfl, rfl, SqT.of (sT _ _ (sp _ _ (s3 _ _ h2))), atI_nat (row_get hm), (n : Int), (t2.reach[i] : Int), rfl, rfl, _, rfl, ?_⟩
      rw [decide_eq_false (by omega)]
      exact iteF ⟨_, _, rfl, sp.trans sT⟩
    · obtain ⟨y3, y4, rfl, sp⟩ := p
      exact q _ (s03.trans sp)
theorem has_leads (A : At K mg "leads_to" (topS 16)) (hW : Has P w K mg base "why_not" 13 (spLead .non)) : Has P w K mg base "leads_to" 14 (spLead (.bl true)) := by
  refine has_of A scLeads (fun _ _ _ _ _ _ us hl => match us, hl with | [_, _], _ => rfl) (fun vs H Q E h => ?_) (fun f cdv A outer s H vs Q E hr h => ?_)
  · obtain ⟨x, y, s, t, rfl, _⟩ := h
    rfl
  · obtain ⟨x, y, t1, t2, rfl, hx, hy, hl, hg, q⟩ := h
    refine ⟨_, pss_one (ps_ret (pe_cmp (pc_isN (pe_c hW hr (pa_cons (pv 0) (pa_cons (pv 1) pa_nil)))) rfl)), ?_⟩
    refine ⟨_, rfl, _, rfl, x, y, t1, t2, rfl, hx, hy, hl, hg, fun H1 s1 => ?_⟩
    exact q H1 s1
theorem has_behind (A : At K mg "check_behind" (topS 17)) (hL : Has P w K mg base "leads_to" 14 (spLead (.bl true))) : Has P w K mg base "check_behind" 15 (spLead .non) := by
  refine has_of A scBehind (fun _ _ _ _ _ _ us hl => match us, hl with | [_, _], _ => rfl) (fun vs H Q E h => ?_) (fun f cdv A outer s H vs Q E hr h => ?_)
  · obtain ⟨x, y, s, t, rfl, _⟩ := h
    rfl
  · obtain ⟨x, y, t1, t2, rfl, hx, hy, hl, hg, q⟩ := h
    refine ⟨_, pss_one (ps_if (pt_not (pt_val (pe_c hL hr (pa_cons (pv 0) (pa_cons (pv 1) pa_nil))))) (pss_one ps_never) pss_nil), ?_⟩
    refine ⟨_, rfl, _, rfl, x, y, t1, t2, rfl, hx, hy, hl, hg, fun H1 s1 => ⟨_, rfl, iteF ?_⟩⟩
    exact q H1 s1
end
end Rg

namespace Rg
open PySem PySem.Spec PyProof.Rows L2
section
variable {P : Program} {w : World} {K : PySem.W.Frag} {mg : Str → Option Value} {base : Heap}
/-! ### tidy -/
theorem scTidy : FnScope ["thing", "part"] ["thing"] (defScope (topS 6)) := ⟨rfl, rfl, rfl, by decide +kernel, rfl, by decide +kernel, by decide +kernel⟩
def spTidy (d : Nat) : Sp := fun vs H Q _ => ∃ (t : T) (v : V), vs = [v] ∧ TAt H t v ∧ t.ht < d ∧ ∀ u H', Same H H' → TAt H' t u → Q u H'
theorem has_tidy (B : Bi mg) (A : At K mg "tidy" (topS 6)) : ∀ d, Has P w K mg base "tidy" d (spTidy d)
  | 0 => has_no A (ps := ["thing"]) (fun _ _ _ _ _ _ us hl => match us, hl with | [_], _ => rfl) fun vs H Q E h => by
    obtain ⟨t, v, _, _, h, _⟩ := h
    exact absurd h (Nat.not_lt_zero _)
  | d + 1 => by
    have hS := has_tidy B A d
    refine has_of A scTidy (fun _ _ _ _ _ _ us hl => match us, hl with | [_], _ => rfl) (fun vs H Q E h => ?_) (fun f cdv A outer s H vs Q E hr h => ?_)
    · obtain ⟨t, v, rfl, _⟩ := h
      rfl
    · obtain ⟨t, v, rfl, ht, hd, q⟩ := h
      refine ⟨_, pss_cons (ps_if (pt_val (pe_callB call_isiT (by rfl) B.isinstance PyProof.Rows.boot_isinstance (pa_cons (pv 0) (pa_cons (pe_tup (pa_cons (pe_bltn (v := .ty "list") (by rfl) B.list (by decide +kernel) rfl) (pa_cons (pe_bltn (v := .ty "tuple") (by rfl) B.tuple (by decide +kernel) rfl) pa_nil))) pa_nil))))
          (pss_one (ps_ret (pe_callTy (cTup (K := K)) (by rfl) B.tuple (by decide +kernel) (pa_cons
            (pe_lc (own := [("part", 1)]) (g := gName 1) (tt := tYes) (by rfl) scTidy.nd (pi_tup (pv 0))
              (blkOk_by (own := [("part", 1)]) (N := ["thing", "part"]) (sc := defScope (topS 6)) (by decide +kernel))
              (fun _ _ _ _ _ => pg_name (i := 1) scTidy.nd rfl (Or.inl rfl)) (fun _ _ _ _ _ => pts_nil) (fun _ _ _ _ _ => pe_c hS hr (pa_cons (pv 1) pa_nil) (by omega))) pa_nil)))) pss_nil)
        (pss_one (ps_ret (pv 0))), ?_⟩
      refine ⟨v, rfl, (by show 2 ≤ sizeLine; decide), fun tp ntp => ?_⟩
      have s1 := same_new (o := .tup [V.ty "list", V.ty "tuple"]) ntp
      cases t with
      | leaf n =>
        refine ⟨v, tp, _, _, _, false, rfl, upd_same, .cons (.ty "list") (.cons (.ty "tuple") .nil), ty_leaf (ht.mono s1),
          kitAny_cons (b := false) (kit_ty (by decide +kernel)) (fun _ => kitAny_cons (b := false) (kit_ty (by decide +kernel)) (fun _ => kitAny_nil) (fun z => nomatch z)) (fun z => nomatch z), _, rfl, iteF ?_⟩
        exact ⟨v, rfl, q v _ s1 (ht.mono s1)⟩
      | node l r =>
        refine ⟨v, tp, _, _, _, true, rfl, upd_same, .cons (.ty "list") (.cons (.ty "tuple") .nil), ty_tup (ht.mono s1),
          kitAny_cons (b := false) (kit_ty (by decide +kernel)) (fun _ => kitAny_cons (b := true) (kit_ty (by decide +kernel)) (fun z => nomatch z) (fun _ => rfl)) (fun z => nomatch z), _, rfl, iteT ?_⟩
        have hd1 := T.ht_l hd
        obtain ⟨a, x, y, rfl, h1, h2, h3⟩ := ht.mono s1
        refine ⟨_, rfl, a, rfl, ⟨_, SqT.of h1⟩, fun D hD => ?_⟩
        refine lc_gen (walk_tup (K := K) (a := a) (xs := [x, y])) (by show 2 ≤ 1000; decide) hD (fun i H z => ∃ t, [l, r][i]? = some t ∧ TAt H t z) (fun _ => true) (fun i H H' z st h => ?_) (fun H s => SqT.of (s _ _ h1))
          (fun i z H2 H3 Ky Kn hi s2 hy ky kn => ?_) (fun ys H2 s2 hD2 d2 => ?_)
        · obtain ⟨t, e, h⟩ := h
          exact ⟨t, e, h.tup st⟩
        · obtain ⟨rfl, hz⟩ := hy
          refine ⟨rfl, yes_el ?_⟩
          have hT : ∃ t, [l, r][i]? = some t ∧ TAt H3 t z ∧ t.ht < d := by
            match i, hi, hz with
            | 0, _, hz => cases hz; exact ⟨l, rfl, h2.mono s2, hd1.1⟩
            | 1, _, hz => cases hz; exact ⟨r, rfl, h3.mono s2, hd1.2⟩
          obtain ⟨t, k1, k2, k3⟩ := hT
          exact ⟨_, rfl, t, z, rfl, k2, k3, fun u H4 s4 h4 => ky rfl _ _ s4 ⟨t, k1, h4⟩⟩
        · match ys, d2 with
          | [y1, y2], .cons ⟨_, e1, f1⟩ (.cons ⟨_, e2, f2⟩ .nil) =>
            cases e1
            cases e2
            refine ⟨D, _, rfl, .inl ⟨SqL.of hD2, fun p np => ?_⟩⟩
            have s3 := same_new (o := .tup [y1, y2]) np
            exact q _ _ (s1.trans (s2.trans s3)) ⟨p, y1, y2, rfl, upd_same, f1.mono s3, f2.mono s3⟩
/-! ### fraction -/
theorem scFrac : FnScope ["top", "below", "one", "other"] ["top", "below"] (defScope (topS 8)) := ⟨rfl, rfl, rfl, by decide +kernel, rfl, by decide +kernel, by decide +kernel⟩
def spFrac : Sp := fun vs H Q _ => ∃ (a b : Nat), vs = [vn a, vn b] ∧ 0 < b ∧ b < 1000000 ∧ ∀ p H', Same H H' → H' p = some (.tup [vn (a / Nat.gcd a b), vn (b / Nat.gcd a b)]) → Q (.ref p) H'
theorem has_frac (B : Bi mg) (A : At K mg "fraction" (topS 8)) : Has P w K mg base "fraction" 1 spFrac := by
  refine has_of A scFrac (fun _ _ _ _ _ _ us hl => match us, hl with | [_, _], _ => rfl) (fun vs H Q E h => ?_) (fun f cdv A outer s H vs Q E hr h => ?_)
  · obtain ⟨a, b, rfl, _⟩ := h
    rfl
  · obtain ⟨a, b, rfl, hb, hb2, q⟩ := h
    refine ⟨_, pss_cons (ps_par (i := 2) (j := 3) rfl scFrac.nd rfl rfl (by decide) rfl rfl (pa_cons (pe_callB call_abs (by rfl) B.abs (by decide +kernel) (pa_cons (pv 0) pa_nil)) (pa_cons (pv 1) pa_nil)) (by rfl))
      (pss_cons (ps_while PassesOwn.never (pt_cmpR op_gt (pv 2) pe_int (nomark _)) (pss_one (ps_par (i := 2) (j := 3) rfl scFrac.nd rfl rfl (by decide) rfl rfl (pa_cons (pe_op op_mod (pv 3) (pv 2)) (pa_cons (pv 2) pa_nil)) (by rfl))))
      (pss_one (ps_ret (pe_tup (pa_cons (pe_op op_fdiv (pv 0) (pv 3)) (pa_cons (pe_op op_fdiv (pv 1) (pv 3)) pa_nil)))))), ?_⟩
    refine ⟨_, rfl, (a : Int), rfl, _, rfl, _, _, rfl, ?_⟩
    rw [if_neg (by omega)]
    refine ⟨fun m σ H' => ∃ x y : Nat, σ = [some (vn a), some (vn b), some (vn x), some (vn y)] ∧ Nat.gcd x y = Nat.gcd a b ∧ x = m ∧ H' = H, ⟨a, a, b, rfl, rfl, rfl, rfl⟩, fun m σ H1 hW => ?_⟩
    obtain ⟨x, y, rfl, hg, rfl, rfl⟩ := hW
    refine ⟨_, rfl, (x : Int), 0, rfl, rfl, _, rfl, ite2 (fun c => ?_) (fun c => ?_)⟩
    · have hx : (0 : Int) < (x : Int) := of_decide_eq_true c
      have hx' : 0 < x := by omega
      refine ⟨fun σ' H' => ∃ x2 y2 : Nat, σ' = [some (vn a), some (vn b), some (vn x2), some (vn y2)] ∧ Nat.gcd x2 y2 = Nat.gcd a b ∧ x2 < x ∧ H' = H1, fun σ' H' h => ?_, ?_⟩
      · obtain ⟨x2, y2, e, h1, h2, h3⟩ := h
        exact ⟨x2, h2, x2, y2, e, h1, rfl, h3⟩
      · refine ⟨_, rfl, _, rfl, (y : Int), (x : Int), rfl, rfl, hx, _, rfl, _, _, rfl, ?_⟩
        refine ⟨y % x, x, rfl, ?_, Nat.mod_lt _ hx', rfl⟩
        rw [← hg, Nat.gcd_rec x y]
    · have hx : ¬ (0 : Int) < (x : Int) := of_decide_eq_false (Bool.eq_false_iff.mpr c)
      have hx0 : x = 0 := by omega
      subst hx0
      have hy : y = Nat.gcd a b := by rw [← hg, Nat.gcd_zero_left]
      have hpos : 0 < Nat.gcd a b := Nat.gcd_pos_of_pos_right a hb
      have hle : Nat.gcd a b ≤ b := Nat.gcd_le_right a hb
      refine ⟨_, rfl, _, rfl, (a : Int), (y : Int), rfl, rfl, ⟨by omega, by omega⟩, _, rfl, _, rfl, (b : Int), (y : Int), rfl, rfl, ⟨by omega, by omega⟩, (by show 2 ≤ sizeLine; decide), fun p np => ?_⟩
      refine q p _ (same_new np) ?_
      rw [upd_same, hy]
      rfl
end
end Rg

namespace Rg
open PySem PySem.Spec PyProof.Rows L2
/-! ### rows -/
/-- the reaches of a grouping of n + 1 factors, as far as the walks ask -/
def ROk (n : Nat) (r : List Nat) : Prop := r.length = n ∧ ∀ i x, r[i]? = some x → i + 2 ≤ x ∧ x ≤ n + 1
theorem stepped_set {r : List Nat} {i : Nat} (h : i < r.length) : stepped r (i + 1) = r.set i (r.getD (r.getD i 0 - 1) 0) := by
  unfold stepped
  rw [Nat.add_sub_cancel, List.set_eq_take_append_cons_drop, if_pos h]
theorem openIn_mem {r : List Nat} {j : Nat} (h : j ∈ openIn r) : ∃ i, j = i + 1 ∧ i < r.length ∧ r.getD i 0 ≤ r.length := by
  unfold openIn at h
  obtain ⟨i, h1, h2⟩ := List.mem_map.mp h
  obtain ⟨h3, h4⟩ := List.mem_filter.mp h1
  refine ⟨i, h2.symm, List.mem_range.mp h3, ?_⟩
  unfold opn at h4
  rw [Bool.and_eq_true] at h4
  exact Nat.le_of_ble_eq_true h4.1
theorem getD_some {r : List Nat} {i : Nat} (h : i < r.length) : r[i]? = some (r.getD i 0) := by
  rw [List.getD_eq_getElem?_getD, List.getElem?_eq_getElem h]
  rfl
theorem ROk.step {n : Nat} {r : List Nat} {j : Nat} (h : ROk n r) (hj : j ∈ openIn r) : ROk n (stepped r j) := by
  obtain ⟨i, rfl, hi, hle⟩ := openIn_mem hj
  obtain ⟨hl, hb⟩ := h
  have h1 := hb i _ (getD_some hi)
  have hk : r.getD i 0 - 1 < r.length := by omega
  have h2 := hb _ _ (getD_some hk)
  rw [stepped_set hi]
  refine ⟨by rw [List.length_set]; exact hl, fun m x hx => ?_⟩
  by_cases e : i = m
  · subst e
    rw [List.getElem?_set_self hi] at hx
    have hx := Option.some.inj hx
    omega
  · rw [List.getElem?_set_ne e] at hx
    exact hb m x hx
theorem waysOn_mem {r g : List Nat} {j : Nat} (h : j ∈ waysOn r g) : j ∈ openIn r := (List.mem_filter.mp h).1
theorem T.reach_pos : ∀ t : T, t.reach.length + 1 ≥ 1 := fun _ => Nat.le_add_left _ _
theorem inV_row (x : Nat) : ∀ r : List Nat, inV (vn x) (rowV r) = r.any fun y => Nat.beq y x
  | [] => rfl
  | y :: r => by
    have ih := inV_row x r
    have e : eqV (vn y) (vn x) = Nat.beq y x := by
      show (((y : Int)) == ((x : Int))) = Nat.beq y x
      by_cases h : y = x
      · subst h
        rw [Nat.beq_refl]
        exact beq_self_eq_true _
      · rw [show Nat.beq y x = false from by
          cases hb : Nat.beq y x with
          | false => rfl
          | true => exact absurd (Nat.eq_of_beq_eq_true hb) h]
        exact beq_eq_false_iff_ne.mpr fun z => h (by omega)
    show (eqV (vn y) (vn x) || (inV (vn x) (rowV r))) = _
    rw [e, ih]
    rfl
theorem flat_row : ∀ r : List Nat, (rowV r).all flatV = true
  | [] => rfl
  | _ :: r => flat_row r
theorem cut_lo {xs : List V} {i : Nat} (h : i ≤ xs.length) : cutV xs none (some (i : Int)) = xs.take i := by
  unfold cutV
  rw [HT.sIx_none, HT.sIx_nat, Nat.min_eq_left h, Nat.sub_zero, List.drop_zero]
theorem cut_hi {xs : List V} {i : Nat} (h : i ≤ xs.length) : cutV xs (some (i : Int)) none = xs.drop i := by
  unfold cutV
  rw [HT.sIx_none, HT.sIx_nat, Nat.min_eq_left h]
  exact List.take_of_length_le (by rw [List.length_drop] <;> exact Nat.le_refl _)
theorem row_take (r : List Nat) (i : Nat) : (rowV r).take i = rowV (r.take i) := List.map_take.symm
theorem row_drop (r : List Nat) (i : Nat) : (rowV r).drop i = rowV (r.drop i) := List.map_drop.symm
theorem row_len (r : List Nat) : (rowV r).length = r.length := List.length_map _
section
variable {P : Program} {w : World} {K : PySem.W.Frag} {mg : Str → Option Value} {base : Heap}
/-! ### open_in -/
theorem scOpen : FnScope ["row", "place", "reach"] ["row"] (defScope (topS 19)) := ⟨rfl, rfl, rfl, by decide +kernel, rfl, by decide +kernel, by decide +kernel⟩
def spOpen : Sp := fun vs H Q _ => ∃ (n : Nat) (r : List Nat) (v : V), vs = [v] ∧ RowAt H r v ∧ ROk n r ∧ n ≤ 100 ∧ ∀ p H', Same H H' → H' p = some (.lst (rowV (openIn r))) → Q (.ref p) H'
theorem has_open (B : Bi mg) (A : At K mg "open_in" (topS 19)) : Has P w K mg base "open_in" 1 spOpen := by
  refine has_of A scOpen (fun _ _ _ _ _ _ us hl => match us, hl with | [_], _ => rfl) (fun vs H Q E h => ?_) (fun f cdv A outer s H vs Q E hr h => ?_)
  · obtain ⟨n, r, v, rfl, _⟩ := h
    rfl
  · obtain ⟨n, r, v, rfl, ⟨a, rfl, ha⟩, hok, hn, q⟩ := h
    refine ⟨_, pss_one (ps_ret (pe_lc (own := [("place", 1), ("reach", 2)]) (g := gTup K 2 (gCons (gName 1) (gCons (gName 2) gNil))) (by rfl) scOpen.nd (pi_enumT (by rfl) B.enumerate (pa_cons (pv 0) pa_nil))
        (blkOk_by (own := [("place", 1), ("reach", 2)]) (N := ["row", "place", "reach"]) (sc := defScope (topS 19)) (by decide +kernel))
        (fun _ _ _ _ _ => pg_tup (by rfl) (pgs_cons (pg_name (i := 1) scOpen.nd rfl (Or.inl rfl)) (pgs_cons (pg_name (i := 2) scOpen.nd rfl (Or.inl rfl)) pgs_nil)))
        (fun _ _ _ _ _ => pts_one (PW.pt (pw_and (pt_cmpR op_le (pv 2) (pe_callB (cLen (K := K)) (by rfl) B.len PySem.boot_len (pa_cons (pv 0) pa_nil)) (nomark _))
          (pw_and1 (pt_cmpR (opNotIn (K := K)) (pv 2) (pe_slice (slT (K := K)) (pv 0) po_none (po_some (pv 1))) (by rfl))))))
        (fun _ _ _ _ _ => pe_op op_add (pv 1) pe_int))), ?_⟩
    refine ⟨_, rfl, a, _, rfl, SqT.of ha, fun D hD => ?_⟩
    have hlen : (rowV r).length = n := by rw [row_len]; exact hok.1
    refine lc_gen (walk_enumT (K := K) (a := a) (xs := rowV r)) (by omega) hD (fun i H z => z = vn (i + 1)) (opn r) (fun _ _ _ _ _ h => h) (fun H s => SqT.of (s _ _ ha))
      (fun i z H2 H3 Ky Kn hi s2 hy ky kn => ?_) (fun ys H2 s2 hD2 d2 => ?_)
    · obtain ⟨Tp, u, v, rfl, nT, rfl, hu, hv⟩ := hy
      cases hu
      obtain ⟨x, hx, rfl⟩ := row_at hv
      have sT := same_new (o := .tup [V.int (i : Nat), vn x]) nT
      have ha3 := sT _ _ (s2 _ _ ha)
      refine g2 upd_same ⟨rfl, ?_⟩
      have hi' : i < r.length := by rw [row_len] at hi; exact hi
      have ex : r.getD i 0 = x := getD_of hx
      refine ⟨_, rfl, _, rfl, a, _, rfl, .inr (SqT.of ha3), (x : Int), ((rowV r).length : Int), rfl, rfl, _, rfl, ?_⟩
      by_cases hle : x ≤ r.length
      · rw [row_len, decide_eq_true (by omega)]
        refine iteT ⟨_, rfl, _, rfl, _, rfl, _, rfl, a, _, rfl, SqT.of ha3, fun hw => ?_, fun _ p np => ?_⟩
        · obtain ⟨_, hw2⟩ := hw
          rw [HT.sIx_nat, row_len] at hw2
          omega
        · have ec : cutV (rowV r) none (some (i : Int)) = rowV (r.take i) := by rw [cut_lo (by rw [row_len]; omega), row_take]
          rw [ec]
          have sp := same_new (o := .tup (rowV (r.take i))) np
          refine ⟨p, _, rfl, .inr (SqT.of upd_same), rfl, flat_row _, _, rfl, ?_⟩
          rw [inV_row]
          cases hb : (r.take i).any fun y => Nat.beq y x with
          | true => exact kn (by unfold opn; rw [ex, hb]; cases Nat.ble x r.length <;> rfl) _ (sT.trans sp)
          | false =>
            refine ⟨_, rfl, _, _, rfl, rfl, ky (by unfold opn; rw [ex, hb, Nat.ble_eq_true_of_le hle]; rfl) _ _ (sT.trans sp) rfl⟩
      · rw [row_len, decide_eq_false (by omega)]
        refine iteF (kn ?_ _ sT)
        unfold opn
        rw [ex]
        cases hb : Nat.ble x r.length with
        | true => exact absurd (Nat.le_of_ble_eq_true hb) hle
        | false => rfl
    · refine q D H2 s2 ?_
      have e := pairedEq (f := fun i => vn (i + 1)) d2
      rw [hD2, e, row_len]
      show some (HO.lst _) = some (HO.lst (((List.filter (opn r) (List.range r.length)).map (· + 1)).map vn))
      rw [List.map_map]
      rfl
end
end Rg

namespace Rg
open PySem PySem.Spec PyProof.Rows L2
theorem fitsL_all : ∀ {a b : List Nat}, a.length = b.length → ((List.range a.length).map fun i => decide (((a.getD i 0 : Nat) : Int) ≤ ((b.getD i 0 : Nat) : Int))).all id = fitsL a b
  | [], _, _ => rfl
  | _ :: _, [], h => by simp at h
  | x :: xs, y :: ys, h => by
    have ih := fitsL_all (a := xs) (b := ys) (by simpa using h)
    show ((List.range (xs.length + 1)).map _).all id = (Nat.ble x y && fitsL xs ys)
    rw [List.range_succ_eq_map, List.map_cons, List.all_cons, List.map_map, ← ih]
    have e : decide (((x : Nat) : Int) ≤ ((y : Nat) : Int)) = Nat.ble x y := by
      cases hb : Nat.ble x y with
      | true => exact decide_eq_true (by have := Nat.le_of_ble_eq_true hb; omega)
      | false =>
        refine decide_eq_false fun h => ?_
        have : Nat.ble x y = true := Nat.ble_eq_true_of_le (by omega)
        rw [hb] at this
        cases this
    show (decide (((x : Nat) : Int) ≤ ((y : Nat) : Int)) && _) = _
    rw [e]
    rfl
section
variable {P : Program} {w : World} {K : PySem.W.Frag} {mg : Str → Option Value} {base : Heap}
/-! ### stepped -/
theorem scStep : FnScope ["row", "join"] ["row", "join"] (defScope (topS 20)) := ⟨rfl, rfl, rfl, by decide +kernel, rfl, by decide +kernel, by decide +kernel⟩
def spStep : Sp := fun vs H Q _ => ∃ (n i : Nat) (r : List Nat) (v : V), vs = [v, vn (i + 1)] ∧ RowAt H r v ∧ ROk n r ∧ n ≤ 100 ∧ i + 1 ∈ openIn r ∧ ∀ p H', Same H H' → H' p = some (.tup (rowV (stepped r (i + 1)))) → Q (.ref p) H'
theorem has_step (A : At K mg "stepped" (topS 20)) : Has P w K mg base "stepped" 1 spStep := by
  refine has_of A scStep (fun _ _ _ _ _ _ us hl => match us, hl with | [_, _], _ => rfl) (fun vs H Q E h => ?_) (fun f cdv A outer s H vs Q E hr h => ?_)
  · obtain ⟨n, i, r, v, rfl, _⟩ := h
    rfl
  · obtain ⟨n, i, r, v, rfl, ⟨a, rfl, ha⟩, hok, hn, hj, q⟩ := h
    refine ⟨_, pss_one (ps_ret (pe_tup (StX.pa_star (pe_slice (slT (K := K)) (pv 0) po_none (po_some (pe_op op_sub (pv 1) pe_int)))
      (pa_cons (pe_ix (ixT (K := K)) (pv 0) (pe_op op_sub (pe_ix (ixT (K := K)) (pv 0) (pe_op op_sub (pv 1) pe_int) (fun _ _ => rfl)) pe_int) (fun _ _ => rfl))
      (StX.pa_star (pe_slice (slT (K := K)) (pv 0) (po_some (pv 1)) po_none) pa_nil))))), ?_⟩
    obtain ⟨i', e, hi, hle⟩ := openIn_mem hj
    obtain rfl : i = i' := by omega
    have hl := hok.1
    have hx := getD_some hi
    have hb := hok.2 i _ hx
    generalize hxe : r.getD i 0 = x at hx hb hle
    have hk : x - 1 < r.length := by omega
    have hy := getD_some hk
    generalize hye : r.getD (x - 1) 0 = y at hy
    have e1 : ((i + 1 : Nat) : Int) - 1 = (i : Int) := by omega
    have e2 : (x : Int) - 1 = ((x - 1 : Nat) : Int) := by omega
    have es : rowV (stepped r (i + 1)) = (rowV r).take i ++ (vn y :: ((rowV r).drop (i + 1) ++ [])) := by
      unfold stepped
      rw [Nat.add_sub_cancel, hxe, hye, List.append_nil, row_take, row_drop]
      show (r.take i ++ y :: r.drop (i + 1)).map vn = _
      rw [List.map_append, List.map_cons]
    refine ⟨_, rfl, _, rfl, _, _, rfl, rfl, _, rfl, ?_⟩
    rw [e1]
    refine ⟨a, _, rfl, SqT.of ha, fun hw => ?_, fun _ p np => ?_⟩
    · obtain ⟨_, hw2⟩ := hw
      rw [HT.sIx_nat, row_len] at hw2
      omega
    rw [cut_lo (by rw [row_len]; omega)]
    have s1 := same_new (o := .tup ((rowV r).take i)) np
    refine ⟨p, _, rfl, .inl (SqT.of upd_same), ?_⟩
    refine ⟨_, rfl, _, rfl, _, rfl, _, _, rfl, rfl, a, _, (i : Int), vn x, rfl, congrArg V.int e1, SqT.of (s1 _ _ ha), atI_nat (row_get hx), (x : Int), 1, rfl, rfl, a, _, ((x - 1 : Nat) : Int), vn y, rfl, congrArg V.int e2, SqT.of (s1 _ _ ha), atI_nat (row_get hy), ?_⟩
    refine ⟨_, rfl, _, rfl, ((i + 1 : Nat) : Int), rfl, a, _, rfl, SqT.of (s1 _ _ ha), fun hw => ?_, fun _ p2 np2 => ?_⟩
    · obtain ⟨hw1, _⟩ := hw
      rw [HT.sIx_nat, row_len] at hw1
      omega
    rw [cut_hi (by rw [row_len]; omega)]
    have s2 := same_new (o := .tup ((rowV r).drop (i + 1))) np2
    refine ⟨p2, _, rfl, .inl (SqT.of upd_same), ?_, fun p3 np3 => ?_⟩
    · rw [← es, row_len, stepped_set hi, List.length_set]
      exact sz1000 (by omega)
    · refine q p3 _ (s1.trans (s2.trans (same_new np3))) ?_
      rw [upd_same, es]
/-! ### fits -/
theorem scFits : FnScope ["row", "goal", "place", "reach"] ["row", "goal"] (defScope (topS 21)) := ⟨rfl, rfl, rfl, by decide +kernel, rfl, by decide +kernel, by decide +kernel⟩
def spFits : Sp := fun vs H Q _ => ∃ (r g : List Nat) (u v : V), vs = [u, v] ∧ RowAt H r u ∧ RowAt H g v ∧ r.length = g.length ∧ r.length ≤ 100 ∧ ∀ H', Same H H' → Q (.bl (fitsL r g)) H'
theorem has_fits (B : Bi mg) (A : At K mg "fits" (topS 21)) : Has P w K mg base "fits" 1 spFits := by
  refine has_of A scFits (fun _ _ _ _ _ _ us hl => match us, hl with | [_, _], _ => rfl) (fun vs H Q E h => ?_) (fun f cdv A outer s H vs Q E hr h => ?_)
  · obtain ⟨r, g, u, v, rfl, _⟩ := h
    rfl
  · obtain ⟨r, g, u, v, rfl, ⟨a, rfl, ha⟩, ⟨b, rfl, hb⟩, hl, hn, q⟩ := h
    refine ⟨_, pss_one (ps_ret (pe_callB (cAll (K := K)) (by rfl) B.all (by decide +kernel) (pa_cons
      (pe_lc (own := [("place", 2), ("reach", 3)]) (g := gTup K 2 (gCons (gName 2) (gCons (gName 3) gNil))) (tt := tYes) (by rfl) scFits.nd (pi_enumT (by rfl) B.enumerate (pa_cons (pv 0) pa_nil))
        (blkOk_by (own := [("place", 2), ("reach", 3)]) (N := ["row", "goal", "place", "reach"]) (sc := defScope (topS 21)) (by decide +kernel))
        (fun _ _ _ _ _ => pg_tup (by rfl) (pgs_cons (pg_name (i := 2) scFits.nd rfl (Or.inl rfl)) (pgs_cons (pg_name (i := 3) scFits.nd rfl (Or.inl rfl)) pgs_nil)))
        (fun _ _ _ _ _ => pts_nil)
        (fun _ _ _ _ _ => pe_cmpR op_le (pv 3) (pe_ix (ixT (K := K)) (pv 1) (pv 2) (fun _ _ => rfl)) (nomark _))) pa_nil))), ?_⟩
    refine ⟨_, rfl, a, _, rfl, SqT.of ha, fun D hD => ?_⟩
    refine lc_gen (walk_enumT (K := K) (a := a) (xs := rowV r)) (by rw [row_len]; omega) hD (fun i H z => z = V.bl (decide (((r.getD i 0 : Nat) : Int) ≤ ((g.getD i 0 : Nat) : Int)))) (fun _ => true) (fun _ _ _ _ _ h => h) (fun H s => SqT.of (s _ _ ha))
      (fun i z H2 H3 Ky Kn hi s2 hy ky kn => ?_) (fun ys H2 s2 hD2 d2 => ?_)
    · obtain ⟨Tp, u, v, rfl, nT, rfl, hu, hv⟩ := hy
      cases hu
      obtain ⟨x, hx, rfl⟩ := row_at hv
      have sT := same_new (o := .tup [V.int (i : Nat), vn x]) nT
      refine g2 upd_same ⟨rfl, yes_el ?_⟩
      have hi' : i < g.length := by rw [row_len] at hi; omega
      have hy := getD_some hi'
      refine ⟨_, rfl, _, rfl, _, rfl, b, _, (i : Int), _, rfl, rfl, SqT.of (sT _ _ (s2 _ _ hb)), atI_nat (row_get hy), (x : Int), ((g.getD i 0 : Nat) : Int), rfl, rfl, ky rfl _ _ sT ?_⟩
      rw [getD_of hx]
    · have e := pairedEq (f := fun i => V.bl (decide (((r.getD i 0 : Nat) : Int) ≤ ((g.getD i 0 : Nat) : Int)))) d2
      rw [range_yes, row_len] at e
      refine ⟨D, (List.range r.length).map fun i => decide (((r.getD i 0 : Nat) : Int) ≤ ((g.getD i 0 : Nat) : Int)), rfl, SqL.of (by rw [hD2, e, List.map_map]; rfl), ?_⟩
      rw [fitsL_all hl]
      exact q _ s2
/-! ### ways_on -/
theorem none_back {H H1 : Hp} {p : Addr} (s : Same H H1) (h : H1 p = none) : H p = none := by
  cases e : H p with
  | none => rfl
  | some o => rw [s _ _ e] at h; cases h
theorem scWays : FnScope ["row", "goal", "join"] ["row", "goal"] (defScope (topS 22)) := ⟨rfl, rfl, rfl, by decide +kernel, rfl, by decide +kernel, by decide +kernel⟩
def spWays : Sp := fun vs H Q _ => ∃ (n : Nat) (r g : List Nat) (u v : V), vs = [u, v] ∧ RowAt H r u ∧ RowAt H g v ∧ ROk n r ∧ g.length = n ∧ n ≤ 100 ∧ ∀ p H', H p = none → Same H H' → H' p = some (.lst (rowV (waysOn r g))) → Q (.ref p) H'
theorem filter_range {α : Type} (f : α → Bool) (d : α) : ∀ l : List α, ((List.range l.length).filter (fun i => f (l.getD i d))).map (fun i => l.getD i d) = l.filter f
  | [] => rfl
  | x :: xs => by
    have ih := filter_range f d xs
    show ((List.range (xs.length + 1)).filter _).map _ = _
    rw [List.range_succ_eq_map, List.filter_cons, List.filter_map, List.filter_cons]
    have e : (fun i => f ((x :: xs).getD i d)) ∘ Nat.succ = fun i => f (xs.getD i d) := by funext i; rfl
    rw [e]
    by_cases h : f x = true
    · rw [if_pos (show f ((x :: xs).getD 0 d) = true from h), if_pos h, List.map_cons, List.map_map]
      have e2 : (fun i => (x :: xs).getD i d) ∘ Nat.succ = fun i => xs.getD i d := by funext i; rfl
      rw [e2, ih]
      rfl
    · rw [if_neg (show ¬ f ((x :: xs).getD 0 d) = true from h), if_neg h, List.map_map]
      have e2 : (fun i => (x :: xs).getD i d) ∘ Nat.succ = fun i => xs.getD i d := by funext i; rfl
      rw [e2, ih]
theorem openIn_len (r : List Nat) : (openIn r).length ≤ r.length := by
  unfold openIn
  rw [List.length_map]
  have := List.length_filter_le (opn r) (List.range r.length)
  rw [List.length_range] at this
  exact this
theorem has_ways (A : At K mg "ways_on" (topS 22)) (hO : Has P w K mg base "open_in" 1 spOpen) (hS : Has P w K mg base "stepped" 1 spStep) (hF : Has P w K mg base "fits" 1 spFits) : Has P w K mg base "ways_on" 2 spWays := by
  refine has_of A scWays (fun _ _ _ _ _ _ us hl => match us, hl with | [_, _], _ => rfl) (fun vs H Q E h => ?_) (fun f cdv A outer s H vs Q E hr h => ?_)
  · obtain ⟨n, r, g, u, v, rfl, _⟩ := h
    rfl
  · obtain ⟨n, r, g, u, v, rfl, hu, hv, hok, hl, hn, q⟩ := h
    refine ⟨_, pss_one (ps_ret (pe_lc (own := [("join", 2)]) (g := gName 2) (by rfl) scWays.nd (pi_list (pe_c hO hr (pa_cons (pv 0) pa_nil)))
        (blkOk_by (own := [("join", 2)]) (N := ["row", "goal", "join"]) (sc := defScope (topS 22)) (by decide +kernel))
        (fun _ _ _ _ _ => pg_name (i := 2) scWays.nd rfl (Or.inl rfl))
        (fun _ _ _ _ _ => pts_one (pt_val (pe_c hF hr (pa_cons (pe_c hS hr (pa_cons (pv 0) (pa_cons (pv 2) pa_nil))) (pa_cons (pv 1) pa_nil)))))
        (fun _ _ _ _ _ => pv 2))), ?_⟩
    refine ⟨_, rfl, n, r, u, rfl, hu, hok, hn, fun p H1 s1 h1 => ⟨p, rfl, ⟨_, SqL.of h1⟩, fun D hD => ?_⟩⟩
    have hol := openIn_len r
    refine lc_gen (walk_list (K := K) (a := p) (xs := rowV (openIn r))) (by rw [row_len]; have := hok.1; omega) hD (fun i H z => z = vn ((openIn r).getD i 0)) (fun i => fitsL (stepped r ((openIn r).getD i 0)) g) (fun _ _ _ _ _ h => h) (fun H s => SqL.of (s _ _ h1))
      (fun i z H2 H3 Ky Kn hi s2 hy ky kn => ?_) (fun ys H2 s2 hD2 d2 => ?_)
    · obtain ⟨rfl, hz⟩ := hy
      obtain ⟨j, hj, rfl⟩ := row_at hz
      have hmem : j ∈ openIn r := List.mem_of_getElem? hj
      obtain ⟨i0, rfl, hi0, _⟩ := openIn_mem hmem
      have s12 := s1.trans s2
      refine ⟨rfl, ?_⟩
      refine ⟨_, rfl, _, rfl, n, i0, r, u, rfl, hu.mono s12, hok, hn, hmem, fun p4 H4 s4 h4 => ?_⟩
      have hst := hok.step hmem
      refine ⟨_, rfl, stepped r (i0 + 1), g, .ref p4, v, rfl, ⟨p4, rfl, h4⟩, hv.mono (s12.trans s4), by rw [hst.1, hl], by rw [hst.1]; exact hn, fun H5 s5 => ⟨_, rfl, ?_⟩⟩
      have ej : (openIn r).getD i 0 = i0 + 1 := getD_of hj
      cases hb : fitsL (stepped r (i0 + 1)) g with
      | true => exact ⟨_, rfl, ky (by rw [ej]; exact hb) _ _ (s4.trans s5) (by rw [ej])⟩
      | false => exact kn (by rw [ej]; exact hb) _ (s4.trans s5)
    · refine q D H2 (none_back s1 hD) (s1.trans s2) ?_
      have e := pairedEq (f := fun i => vn ((openIn r).getD i 0)) d2
      rw [hD2, e, row_len]
      have e2 := filter_range (fun j => fitsL (stepped r j) g) 0 (openIn r)
      show some (HO.lst _) = some (HO.lst (((openIn r).filter fun j => fitsL (stepped r j) g).map vn))
      rw [← e2, List.map_map]
      rfl
end
end Rg

/-! dicts whose keys are tuples: a display of one pair, a comprehension -/
namespace Rg
open PySem PySem.Spec PyProof.Rows L2
/-- {k: v}, k a tuple -/
def tDisp1T (tk tv : TE) : TE := fun σ H Q => ∀ p, H p = none → tk σ (upd H p (.dT [])) fun x H1 => tv σ H1 fun y H2 => H2 p = some (.dT []) ∧ ∃ (a : Addr) (k : List L2.Key), x = .ref a ∧ H2 a = some (.tup (k.map kV)) ∧ Q (.ref p) (upd H2 p (.dT [(k, y)]))
theorem pe_disp1T {X : Cx} {k v : Expr} {pos : Pos} {tk tv : TE} (hu : X.A.units + 1 < cLine) (hk : PE X k tk) (hv : PE X v tv) : PE X (.Dict [some k] [v] pos) (tDisp1T tk tv) := by
  refine ⟨fun pins s σ H Q I q => ?_⟩
  have hn := I.hok.fresh (Nat.le_refl s.heap.objs.size)
  have I1 := I.laid (a := s.heap.objs.size) (o := .dT []) (h' := s.heap.push { cls := .type "dict", data := .dict #[] }) (t' := s.toks) (fun _ _ z => Heap.get?_push_of_some _ z) (Nat.le_refl _) (dt_empty s.heap I.big)
  rw [arm_eval_Dict]
  have hsh : (evalEachOpt [some k] X.env).zip ((evalEach [v] X.env).map fun v => do let x ← v; standAt pos; pure x) = [(eval k X.env, (do let x ← eval v X.env; standAt pos; pure x))].map fun p => (some p.1, p.2) := rfl
  rw [hsh, dictDisplay_pairs _ (by simp) (by show 1 < 17; decide)]
  refine wpAny_bind (wpAny_standAt (wpAny_bind (wpAny_subDictH (knd := tupleKind (mixKind X.prog X.w)) (Q := fun d s' => wpAny (model X.prog X.w) X.A (pure (Value.ref d)) (EP X pins σ Q) X.xe s') (show X.A.units < cLine by omega) (by show 1 ≤ 15; decide) ?_)))
  refine evalPairs_cons (thn (hk.run pins _ σ _ _ I1 (q _ hn)) fun u s2 ⟨x, H2, I2, rx, q2⟩ => ?_)
  refine wpAny_bind (thn (hv.run pins s2 σ H2 _ I2 q2) fun r s3 ⟨y, H3, I3, ry, e3, a, ks, ea, eb, q3⟩ => wpAny_bind (wpAny_standAt (wpAny_pure (evalPairs_nil ?_))))
  subst ea
  obtain rfl : u = Value.ref a := rx
  obtain ⟨z, hd, xs, rel, dd⟩ := dt_of I3.hok e3
  cases rel
  refine ⟨[(ks, a, r)], ⟨rfl, rfl, key_of I3.hok eb, True.intro⟩, dd, fun h' tk' dd' hs => wpAny_pure ⟨.ref s.heap.objs.size, _, ?_, rfl, q3⟩⟩
  obtain ⟨o, es, ep, h1, h2, h3, h4, _, h5⟩ := dd'
  refine d_write I3 (by rw [e3]; exact True.intro) hs ⟨o, h1⟩ ⟨by show 1 ≤ sizeLine; decide, hd, [(ks, a, r)], .cons ⟨rfl, ?_, ry⟩ .nil, o, es, ep, h1, h2, h3, h4, h5⟩
  rw [upd_ne (ne_of eb e3 (fun z => nomatch z))]
  exact eb
/-- d[k] = v within a comprehension, k a tuple -/
theorem d_dictSetT {X : Cx} {pins : List (Addr × Obj)} {σ : L2.St} {H : Hp} {s : Shared} {E : Value → Shared → Prop} {D a : Addr} {kvs : List (List L2.Key × V)} {k : List L2.Key} {v : V} {r : Value} {Q : Unit → Shared → Prop} (hu : X.A.units < cLine) (I : Inv X pins σ H s)
    (hD : H D = some (.dT kvs)) (hz : kvs.length < sizeLine) (hk : H a = some (.tup (k.map kV))) (rv : RelV v r) (h : ∀ s', Inv X pins σ (upd H D (.dT (putK kvs k v))) s' → Q () s') : wpAny (model X.prog X.w) X.A (dictSet D (.ref a) r) Q E s := by
  obtain ⟨z, hd, xs, rel, dd⟩ := dt_of I.hok hD
  have hx : xs.length ≤ sizeLine := by rw [← Paired.length rel]; exact z
  have hl : (putK kvs k v).length ≤ sizeLine := by have := length_putK kvs k v; omega
  refine wpAny_dictSet_heap (knd := tupleKind (mixKind X.prog X.w)) (hsz := hx) hu (key_of I.hok hk) dd fun h' dd' hs => h _ ?_
  obtain ⟨o, es, ep, h1, h2, h3, h4, _, h5⟩ := dd'
  refine d_write I (by rw [hD]; exact True.intro) hs ⟨o, h1⟩ ⟨hl, hd, _, (rel.put k hk rv).keeps fun c ys ec => ?_, o, es, ep, h1, h2, h3, h4, h5⟩
  rw [upd_ne (ne_of ec hD (fun z => nomatch z))]
  exact ec
section
variable {X : Cx}
/-- {k: v for target in iter}, the keys tuples: D the new dict; W by the turn and a measure, Nx what a turn is to reach -/
def tDcT (wi : TI) (g : TG) (tk tv : TE) (vs : List Nat) : TE := fun σ H Q => wi σ H fun J H1 => ∀ D, H1 D = none → ∃ W : Nat → Nat → Hp → Prop, (∃ m, W 0 m (upd H1 D (.dT []))) ∧ ∀ i m H2, W i m H2 →
  (J.stop i H2 ∧ Q (.ref D) H2) ∨ (J.go i H2 ∧ ∃ Nx : Hp → Prop, (∀ H3, Nx H3 → ∃ m', m' < m ∧ W (i + 1) m' H3) ∧ ∀ x H3, J.yld i H2 x H3 → g x (wipe σ vs) H3 fun σ4 H4 => wipe σ4 vs = wipe σ vs ∧
    tk σ4 H4 fun y H5 => tv σ4 H5 fun z H6 => ∃ kvs a k, y = .ref a ∧ H6 D = some (.dT kvs) ∧ H6 a = some (.tup (k.map kV)) ∧ kvs.length < sizeLine ∧ Nx (upd H6 D (.dT (putK kvs k z))))
theorem dcT_core {pins : List (Addr × Obj)} {s : Shared} {σ : L2.St} {H : Hp} {Q : VK} {kx vx tg iter : Expr} {scope : Scope} {own : List (Str × Nat)} {pos pos' : Pos} {wi : TI} {g : TG} {tk tv : TE} {use : Option (Value → Sem Unit)} {Qf : Value → Shared → Prop}
    (hu : X.A.units < cLine) (hc : X.calm = true) (hN : X.N.Nodup) (I : Inv X pins σ H s) (hi : PI X tg iter wi) (ok : BlkOk X.N X.env.scope scope own)
    (hg : ∀ (s : Shared) (H : Hp) (C : Addr) (cl : List (Str × Addr)) (fp : List Addr), PG (X.blk s H scope (compEnvC scope cl C X.env) fp) tg g)
    (hk : ∀ (s : Shared) (H : Hp) (C : Addr) (cl : List (Str × Addr)) (fp : List Addr), PE (X.blk s H scope (compEnvC scope cl C X.env) fp) kx tk)
    (hv : ∀ (s : Shared) (H : Hp) (C : Addr) (cl : List (Str × Addr)) (fp : List Addr), PE (X.blk s H scope (compEnvC scope cl C X.env) fp) vx tv) (hs : ∀ x, foldedSetIterable iter X.env x = pure x)
    (h : tDcT wi g tk tv (own.map (·.2)) σ H Q)
    (back : ∀ (D C : Addr) (s' : Shared) (m : Str → Option Value) (H' : Hp), Inv X pins σ H' s' → Q (.ref D) H' → s'.heap.Ns C m → FpOk X pins H' C → compPost (model X.prog X.w) X.A X.xe use Qf (.ref D) C (.ok .next) s') :
    wpAny (model X.prog X.w) X.A (comprehension (.DictComp kx vx [⟨tg, iter, [], 0⟩] scope pos) scope X.env pos' newDict false (eval iter X.env) use) Qf X.xe s := by
  have free : ∀ y ∈ scope.names, y.2 = .free → ∃ c, X.env.cells.lookup y.1 = some c := fun y hy e => (ok.free y hy e).elim (fun k => I.ok.has _ (.inl k)) (fun k => I.ok.has _ (.inr k))
  refine wpAny_comprehension_free (use := use) rfl hs (closure_ok free) ok.kind (fun y hy e => by rw [ok.uniq y hy, e]) (thn (hi.run pins s σ H _ I h) fun xv s1 hx => thn hx fun itv s2 h2 => ?_)
  obtain ⟨it, fp, tn, J, H2, rfl, I2, T, st2, f2, q⟩ := h2
  refine wpAny_newObj_type (newEnv_comp ?_)
  -- the new dict at D, the block's frame at L
  obtain ⟨D, hD⟩ : ∃ D, D = s2.heap.objs.size := ⟨_, rfl⟩
  have nD : H2 D = none := I2.hok.fresh (Nat.le_of_eq hD.symm)
  obtain ⟨W, ⟨m0, w0⟩, turn⟩ := q D nD
  obtain ⟨s3, es3⟩ : ∃ s3 : Shared, s3 = { s2 with heap := s2.heap.push { cls := .type "dict", data := .dict #[] } } := ⟨_, rfl⟩
  have eh3 : s3.heap = s2.heap.push { cls := .type "dict", data := .dict #[] } := by rw [es3]
  have I3 : Inv X pins σ (upd H2 D (.dT [])) s3 := by
    rw [es3, hD]
    exact I2.laid (t' := s2.toks) (fun b o e => Heap.get?_push_of_some _ e) (Nat.le_refl _) (dt_empty s2.heap I2.big)
  have old : ∀ b ∈ fp, b < s2.heap.objs.size := fun b hb => let ⟨o, e, _⟩ := T.obj _ _ st2 b hb; Heap.lt_size e
  have f3 : ∀ b ∈ fp, FpOk X pins (upd H2 D (.dT [])) b ∧ b < s3.heap.objs.size := fun b hb => by
    have lt := old b hb
    refine ⟨⟨?_, (f2 b hb).2⟩, by rw [eh3, Heap.size_push]; exact Nat.lt_succ_of_lt lt⟩
    rw [upd_ne (by rw [hD]; exact Nat.ne_of_lt lt)]
    exact (f2 b hb).1
  have st3 : tn 0 s3.heap := T.keep _ _ _ st2 fun b _ o e => by rw [eh3]; exact Heap.get?_push_of_some _ e
  have I4 := block_start I3 ok hN f3
  obtain ⟨cl, ecl⟩ : ∃ cl, cl = cellsFrom (s3.heap.objs.size + 1) scope.names (cloFrom X.env.cells scope.names []) := ⟨_, rfl⟩
  have pg := hg s3 (upd H2 D (.dT [])) s3.heap.objs.size cl fp
  have pk := hk s3 (upd H2 D (.dT [])) s3.heap.objs.size cl fp
  have pe := hv s3 (upd H2 D (.dT [])) s3.heap.objs.size cl fp
  rw [← ecl] at I4
  obtain ⟨ce, ece⟩ : ∃ ce, ce = compEnvC scope cl s3.heap.objs.size X.env := ⟨_, rfl⟩
  have cL : ce.locals = s3.heap.objs.size := by rw [ece]; rfl
  rw [← ece] at I4 pg pk pe
  obtain ⟨H3, eH3⟩ : ∃ H3, H3 = upd H2 D (.dT []) := ⟨_, rfl⟩
  rw [← eH3] at I3 I4 pg pk pe w0 f3
  obtain ⟨s4, es4⟩ : ∃ s4 : Shared, s4 = { s3 with heap := pushCells (s3.heap.push { cls := .type "dict", data := .dict #[] }) scope.names } := ⟨_, rfl⟩
  rw [← es4] at I4
  have st4 : tn 0 s4.heap := T.keep _ _ _ st3 fun b _ o e => by rw [es4]; exact pushCells_keeps _ _ _ _ (Heap.get?_push_of_some _ e)
  have stat : ∀ {σ' : L2.St} {H' : Hp} {s' : Shared}, Inv (X.blk s3 H3 scope ce fp) [] σ' H' s' → (∀ b ∈ fp, H' b = none) → ∀ b ∈ fp, FpOk (X.blk s3 H3 scope ce fp) [] H' b := fun {σ' H' s'} I' hn b hb => by
    refine ⟨hn b hb, (I'.ok.exf b hb).1, I'.ok.exfs b hb, .inl hb, (I'.ok.exf b hb).2, fun p hp => ?_⟩
    exact nomatch (show p ∈ ([] : List (Addr × Obj)) from hp)
  suffices loop : codeAny (model X.prog X.w) X.A (.compLoop (.DictComp kx vx [⟨tg, iter, [], 0⟩] scope pos) 0 (.ref it) (.ref D) ce) (compPost (model X.prog X.w) X.A X.xe use Qf (.ref D) s3.heap.objs.size) s4 by
    have z := codeAny_compStart_dict loop (T.self X.A 0 _ _ _ st4 loop)
    subst es4 ece eH3 ecl es3 hD
    exact z
  refine compLoop_anyD (fun n s' => ∃ i H', Inv (X.blk s3 H3 scope ce fp) [] (wipe σ (own.map (·.2))) H' s' ∧ tn i s'.heap ∧ (∀ b ∈ fp, H' b = none) ∧ W i n H') ?_ m0 ⟨0, H3, I4, st4, fun b hb => (f3 b hb).1.1, w0⟩
  rintro n s5 ⟨i, H5, I5, st5, n5, w5⟩
  rcases turn i n H5 w5 with ⟨stop, qq⟩ | ⟨go, Nx, hNx, step⟩
  · refine thnF (T.done (X.blk s3 H3 scope ce fp) rfl rfl rfl hc i [] s5 _ H5 (fun _ _ => False) I5 (stat I5 n5) st5 stop) fun r s6 ⟨er, I6⟩ => ?_
    subst er
    -- the block is left
    have I7 : Inv X pins σ H5 s6 := I3.call' (ch := fp) I6.os I6.base I6.hok I6.bare fun b hb => by
      obtain ⟨_, g1, _, g3, g4, g5⟩ := (f3 b hb).1
      exact ⟨g3, g1, g4, g5⟩
    have nL : H5 s3.heap.objs.size = none := by
      have z : H5 ce.locals = none := I6.free
      rwa [cL] at z
    obtain ⟨m, hn, _⟩ := I6.loc
    have hn : s6.heap.Ns ce.locals m := hn
    rw [cL] at hn
    exact back D s3.heap.objs.size s6 m H5 I7 qq hn (I3.fpOk (Nat.le_refl _) nL)
  · refine thnF (T.item (X.blk s3 H3 scope ce fp) rfl rfl rfl hc i [] s5 _ H5 (fun _ _ => False) I5 (stat I5 n5) st5 go) fun r s6 ⟨u, er, h6⟩ => ?_
    subst er
    refine thnF h6 fun _ s7 ⟨x, H7, I7, r7, y7, st7, n7⟩ => ?_
    have J7 := I7.pinned (stat I7 n7) (T.obj _ _ st7)
    refine thnF (pg.run _ s7 _ H7 x u _ J7 r7 (step x H7 y7)) fun _ s8 ⟨σ8, H8, I8, hw, q8⟩ => ?_
    refine wpAny_tests_nil ?_
    rw [if_pos rfl]
    refine thnF (pk.run _ s8 σ8 H8 _ I8 q8) fun zk s9 ⟨yk, H9, I9, r9, q9⟩ => ?_
    refine thnF (pe.run _ s9 σ8 H9 _ I9 q9) fun zv s10 ⟨yv, H10, I10, r10, kvs, a, k, ek, hD10, ha10, hz10, nx⟩ => ?_
    subst ek
    obtain rfl : zk = Value.ref a := r9
    refine d_dictSetT (X := X.blk s3 H3 scope ce fp) hu I10 hD10 hz10 ha10 r10 fun s11 I11 => ?_
    obtain ⟨m', hm, w'⟩ := hNx _ nx
    have pin : ∀ b ∈ fp, ∀ o, s7.heap.get? b = some o → s11.heap.get? b = some o ∧ (upd H10 D (.dT (putK kvs k yv))) b = none := fun b hb o e => by
      have z := I11.pin (b, o) (List.mem_append_right _ (List.mem_append_right _ (mem_pinsAt hb e)))
      exact ⟨z.1, z.2.1⟩
    refine ⟨m', hm, i + 1, _, (I11.unpinned (pins := [])).weak (by rw [← wipe_length σ8, hw]) (fun j v e => ?_), T.keep _ _ _ st7 fun b hb o e => (pin b hb o e).1, fun b hb => ?_, w'⟩
    · rw [← hw] at e
      exact (wipe_some e).1
    · obtain ⟨o, e, _⟩ := T.obj _ _ st7 b hb
      exact (pin b hb o e).2
theorem ps_setDcT {i : Nat} {y : Str} {py : Pos} {kx vx tg iter : Expr} {scope : Scope} {own : List (Str × Nat)} {pos spos : Pos} {wi : TI} {g : TG} {tk tv : TE} (hu : X.A.units < cLine) (hc : X.calm = true) (hN : X.N.Nodup) (hy : X.N[i]? = some y) (hyl : X.env.scope.names.lookup y = some .local)
    (hsw : swapsWith (.DictComp kx vx [⟨tg, iter, [], 0⟩] scope pos) (some (.Name y py)) spos.line X.env = pure true) (hi : PI X tg iter wi) (ok : BlkOk X.N X.env.scope scope own)
    (hg : ∀ (s : Shared) (H : Hp) (C : Addr) (cl : List (Str × Addr)) (fp : List Addr), PG (X.blk s H scope (compEnvC scope cl C X.env) fp) tg g)
    (hk : ∀ (s : Shared) (H : Hp) (C : Addr) (cl : List (Str × Addr)) (fp : List Addr), PE (X.blk s H scope (compEnvC scope cl C X.env) fp) kx tk)
    (hv : ∀ (s : Shared) (H : Hp) (C : Addr) (cl : List (Str × Addr)) (fp : List Addr), PE (X.blk s H scope (compEnvC scope cl C X.env) fp) vx tv) (hs : ∀ x, foldedSetIterable iter X.env x = pure x := by intro _; rfl) :
    PS X (.Assign [.Name y py] (.DictComp kx vx [⟨tg, iter, [], 0⟩] scope pos) spos) (tAsg (tDcT wi g tk tv (own.map (·.2))) (gName i)) := by
  refine ⟨fun pins s σ H D I hh => ?_⟩
  rw [exec_Assign_Name_used _ _ _ _ hsw]
  refine wpAny_bind (wpAny_standAt (wpAny_bind ?_))
  show wpAny _ X.A (do let _ ← comprehension (.DictComp kx vx [⟨tg, iter, [], 0⟩] scope pos) scope X.env (firstIterPos [⟨tg, iter, [], 0⟩] pos) newDict false (eval iter X.env) (some (assign (.Name y py) X.env))) _ _ s
  have hh : tDcT wi g tk tv (own.map (·.2)) σ H (fun x H1 => gName i x σ H1 D.nx) := hh
  refine wpAny_bind (thn (dcT_core (Qf := fun _ t => SP X pins D .next t) hu hc hN I hi ok hg hk hv hs hh fun L C t m H' I' q hn f => ?_) fun _ t hq => wpAny_pure (wpAny_pure hq))
  show wpAny _ _ (assign (.Name y py) X.env (.ref L)) _ _ _
  refine wpAny_assign_Name (store_ok2 (v := V.ref L) I' hN hy (.inl hyl) rfl (fun t2 I2 ⟨a, sb, ha⟩ => ?_) (.inr hyl))
  obtain ⟨k0, k1, k2, k3, k4, k5⟩ := f
  have hCa : C ≠ a := by
    rcases ha with z | z
    · rw [z]; exact k1
    · exact fun e => k4 y a z e.symm
  refine ⟨m, hn.sameBut sb hCa, fun h3 sb3 => ⟨_, H', I2.turned (t' := t2.toks) (fun b o hb e => (sb3.2 b hb).trans e) k0 k1 k3 k4 k5, q⟩⟩
end
end Rg

/-! d.values(), d.items() of a dict with int keys; their sum, their order -/
namespace Rg
open PySem PySem.Spec PyProof.Rows L2
def valuesO (p d : Addr) : HO := .ext fun h => h.IsValuesView p d
theorem valuesO_ok {P : Program} {w : World} {H : Hp} {h : Heap} {p d : Addr} (e : h.get? p = some { cls := .type "dict_values", data := .fields #[.ref d] }) : ObjOk P w H h p (valuesO p d) :=
  ⟨⟨_, e, rfl, rfl⟩, ⟨_, e⟩, fun h1 h2 x k => let ⟨o, ho, r⟩ := x; ⟨o, k o ho, r⟩⟩
theorem preSum_take (ns : List Int) : ∀ n, n ≤ ns.length → preSum (fun i => ns.getD i 0) n = (ns.take n).sum
  | 0, _ => rfl
  | n + 1, h => by
    have hn : ns[n]? = some (ns.getD n 0) := by
      rw [List.getD_eq_getElem?_getD, List.getElem?_eq_getElem (show n < ns.length by omega)]
      rfl
    rw [sum_take hn, ← preSum_take ns n (by omega)]
    rfl
theorem PairedGetR {α β : Type} {F : α → β → Prop} : ∀ {a : List α} {b : List β} {i : Nat} {x : β}, Paired F a b → b[i]? = some x → ∃ y, a[i]? = some y ∧ F y x
  | _, _, _, _, .nil, e => by simp at e
  | _, _, 0, _, .cons h _, e => by simp at e; subst e; exact ⟨_, rfl, h⟩
  | _, _, i + 1, x, .cons _ t, e => by
    obtain ⟨y, h1, h2⟩ := PairedGetR (i := i) (x := x) t (by simpa using e)
    exact ⟨y, by simpa using h1, h2⟩
section
variable {X : Cx}
def rValuesK : V → List V → Hp → VK → Prop := fun x xs H Q => ∃ (a : Addr) (kvs : List (L2.Key × V)), x = .ref a ∧ xs = [] ∧ H a = some (.dK kvs) ∧ ∀ p, H p = none → Q (.ref p) (upd H p (valuesO p a))
theorem mt_valuesK : MtR X "dict.values" rValuesK := by
  intro pins s σ H x xs v us Q I rx rxs h
  obtain ⟨a, kvs, rfl, rfl, ha, q⟩ := h
  cases rx
  cases rxs
  obtain ⟨z, hd, vs, rel, dd⟩ := dk_of I.hok ha
  refine call_meetsIn PySem.F.slot_dict_values dd.typeIs PySem.F.entry_dict_values (PySem.F.args_dict_values_1 _) (meets_dict_values (mixKind X.prog X.w) a hd) ⟨⟨vs, dd⟩, ?_⟩
  have hf : H s.heap.objs.size = none := I.hok.fresh (Nat.le_refl _)
  exact ⟨.ref s.heap.objs.size, upd H s.heap.objs.size (valuesO s.heap.objs.size a), I.laid (t' := s.toks) (fun b u e => Heap.get?_push_of_some _ e) (Nat.le_refl _) (valuesO_ok (Heap.get?_push_size _ rfl)), rfl, q _ hf⟩
def rItemsK : V → List V → Hp → VK → Prop := fun x xs H Q => ∃ (a : Addr) (kvs : List (L2.Key × V)), x = .ref a ∧ xs = [] ∧ H a = some (.dK kvs) ∧ ∀ p, H p = none → Q (.ref p) (upd H p (L2.DX.itemsO p a))
theorem mt_itemsK : MtR X "dict.items" rItemsK := by
  intro pins s σ H x xs v us Q I rx rxs h
  obtain ⟨a, kvs, rfl, rfl, ha, q⟩ := h
  cases rx
  cases rxs
  obtain ⟨z, hd, vs, rel, dd⟩ := dk_of I.hok ha
  obtain ⟨es, ep, raw, _, _⟩ := dd.raw
  refine DT.callItems (es := es) (ep := ep) hd raw ?_
  have hf : H s.heap.objs.size = none := I.hok.fresh (Nat.le_refl _)
  exact ⟨.ref s.heap.objs.size, upd H s.heap.objs.size (L2.DX.itemsO s.heap.objs.size a), I.laid (t' := s.toks) (fun b u e => Heap.get?_push_of_some _ e) (Nat.le_refl _) (L2.DX.itemsO_ok (Heap.get?_push_size _ rfl)), rfl, q _ hf⟩
/-- sum(d.values()) -/
def rSumV : List V → Hp → VK → Prop := fun xs H Q => ∃ (p d : Addr) (kvs : List (L2.Key × V)) (ns : List Int), xs = [.ref p] ∧ H p = some (valuesO p d) ∧ H d = some (.dK kvs) ∧ kvs.map (·.2) = ns.map V.int ∧ Q (.int ns.sum) H
theorem cSumV (hc : X.calm = true := by rfl) : CallR X (.builtin "sum") rSumV := by
  intro pins s σ H xs us Q I r h
  obtain ⟨p, d, kvs, ns, rfl, hp, hd, hv, q⟩ := h
  rw [Vals.ref1 r]
  have view : s.heap.IsValuesView p d := (show ObjOk X.prog X.w H s.heap p (valuesO p d) from I.hok p _ hp).1
  obtain ⟨z, hsys, vs, rel, dd⟩ := dk_of I.hok hd
  obtain ⟨ep, dat⟩ := dd.dictAt
  have hl : vs.length = ns.length := by
    rw [← rel.length]
    have e := congrArg List.length hv
    rwa [List.length_map, List.length_map] at e
  have Ks := PySem.W.kdl_values (prog := X.prog) (w := X.w) (knd := mixKind X.prog X.w) (kvs := vs) (ep := ep) (r := p) (d := d)
  refine call_sum_walkAnyS ?_
  obtain ⟨oI, St, hit, W, st⟩ := Ks.iter X.A.in1 s (I.ok.hd hc) ⟨view, dat⟩
  refine hit _ _ ⟨s.heap.objs.size, _, _, _, vs.length, _, _, fun i => ns.getD i 0, rfl, W.toS, st, fun b hb => ?_, fun i v hP => ?_, fun s' t' hm => ?_⟩
  · show b < (s.heap.push oI).objs.size
    rw [Heap.size_push]
    rcases List.mem_cons.mp hb with e | hb
    · rw [e]; exact Nat.lt_succ_self _
    · rw [List.mem_singleton.mp hb]; exact Nat.lt_succ_of_lt dat.lt_size
  · obtain ⟨k, hk⟩ := hP
    obtain ⟨⟨k', y⟩, hy, h1, h2⟩ : ∃ y, kvs[i]? = some y ∧ y.1 = k ∧ RelV y.2 v := by
      obtain ⟨y, hy, h1, h2⟩ := PairedGetR rel hk
      exact ⟨y, hy, h1, h2⟩
    have e1 : (kvs.map (·.2))[i]? = some y := by rw [List.getElem?_map, hy]; rfl
    rw [hv, List.getElem?_map] at e1
    obtain ⟨n, hn, e2⟩ := Option.map_eq_some_iff.mp e1
    subst e2
    obtain ⟨t, rfl⟩ := h2
    refine ⟨t, ?_⟩
    show Value.int n t = Value.int (ns.getD i 0) t
    rw [List.getD_eq_getElem?_getD, hn]
    rfl
  · have hk : ∀ b o, s.heap.get? b = some o → s'.heap.get? b = some o := fun b o e =>
      hm.heap b o (fun hI => absurd (Heap.lt_size e) (by rw [List.mem_singleton.mp hI]; exact Nat.lt_irrefl _)) (Heap.get?_push_of_some _ e)
    rw [PySem.Moved.eq_with hm, hl, preSum_take ns _ (Nat.le_refl _), List.take_length]
    exact ⟨.int _, H, I.kept (t' := s'.toks) hk, ⟨t', rfl⟩, q⟩
end
end Rg

/-! sorted(d.items()), d of numbers to numbers: some arrangement of its pairs -/
namespace Rg
open PySem PySem.Spec PyProof.Rows L2
/-- a pair of numbers -/
def PrAt (H : Hp) (q : Nat × Nat) (x : V) : Prop := ∃ t, x = .ref t ∧ H t = some (.tup [vn q.1, vn q.2])
theorem PrAt.tup {H H' : Hp} (s : ∀ b xs, H b = some (.tup xs) → H' b = some (.tup xs)) {q : Nat × Nat} {x : V} (h : PrAt H q x) : PrAt H' q x := by
  obtain ⟨t, e, h⟩ := h
  exact ⟨t, e, s _ _ h⟩
abbrev nnKV (q : Nat × Nat) : L2.Key × V := (Sum.inl (q.1 : Int), vn q.2)
def rSortIK : List V → Hp → VK → Prop := fun vs H Q => ∃ (p a : Addr) (ns : List (Nat × Nat)), vs = [.ref p] ∧ H p = some (L2.DX.itemsO p a) ∧ H a = some (.dK (ns.map nnKV)) ∧ ns.length < 64 ∧ (∀ q ∈ ns, q.1 < 1000000 ∧ q.2 < 1000000) ∧
  ∀ (H' : Hp) (l : Addr) (zs : List (Addr × Nat × Nat)), Same H H' → (zs.map (·.2)).Perm ns → H' l = some (.lst (zs.map fun z => V.ref z.1)) → (∀ z ∈ zs, H' z.1 = some (.tup [vn z.2.1, vn z.2.2])) → Q (.ref l) H'
theorem map_zip_fst {α β γ : Type} (f : α → γ) : ∀ (as : List α) (ks : List β), as.length = ks.length → (as.zip ks).map (fun z => f z.1) = as.map f
  | [], _, _ => rfl
  | a :: as, [], h => by simp at h
  | a :: as, k :: ks, h => by
    show f a :: (as.zip ks).map _ = f a :: as.map f
    rw [map_zip_fst f as ks (by simpa using h)]
theorem cSortIK {X : Cx} (hc : X.calm = true := by rfl) : CallR X (.builtin "sorted") rSortIK := by
  intro pins s σ H xs us Q I r h
  obtain ⟨p, a, ns, rfl, hp, ha, h64, hB, q⟩ := h
  rw [Vals.ref1 r]
  have view : s.heap.IsItemsView p a := (show ObjOk X.prog X.w H s.heap p (L2.DX.itemsO p a) from I.hok p _ hp).1
  obtain ⟨z, hsys, vs, rel, dd⟩ := dk_of I.hok ha
  obtain ⟨es, ep, raw, hsz, hent⟩ := dd.raw
  have l1 : vs.length = ns.length := by rw [← rel.length, List.length_map]
  refine DT.sortedI (es := es) (ep := ep) (I.ok.hd hc) view raw (by rw [sizeLine_eq]; omega) fun h' tk as hk hlt hl hG => ?_
  have lak : as.length = ns.length := by omega
  have nd : as.Nodup := List.Pairwise.imp (fun h => Nat.ne_of_lt h) hG.rise
  have pr : ∀ (j : Nat) (b : Addr), as[j]? = some b → ∃ (m : Nat × Nat) (t u : Tok), ns[j]? = some m ∧ h'.get? b = some { cls := .type "tuple", data := .seq #[.int (m.1 : Int) t, .int (m.2 : Int) u] } := by
    intro j b hj
    obtain ⟨en, he, hg⟩ := hG.pairs j b hj
    have hje : j < es.size := (Array.getElem?_eq_some_iff.mp he).1
    have hjn : j < ns.length := by omega
    have hjv : j < vs.length := by omega
    obtain ⟨y, hy, e1, e2⟩ := PairedGetR rel (List.getElem?_eq_getElem hjv)
    rw [List.getElem?_map, List.getElem?_eq_getElem hjn] at hy
    have hy : nnKV ns[j] = y := Option.some.inj hy
    obtain ⟨k1, k2⟩ := hent j hje vs[j].1 vs[j].2 (List.getElem?_eq_getElem hjv)
    have een : es[j] = en := Option.some.inj ((Array.getElem?_eq_getElem hje).symm.trans he)
    rw [← hy] at e1 e2
    have ek : vs[j].1 = Sum.inl ((ns[j].1 : Nat) : Int) := e1.symm
    rw [ek] at k1
    obtain ⟨t, et⟩ := Value.isInt_shape (k := ((ns[j].1 : Nat) : Int)) (v := es[j].key) k1
    obtain ⟨u, eu⟩ := e2
    refine ⟨ns[j], t, u, List.getElem?_eq_getElem hjn, ?_⟩
    rw [hg, ← een, et, k2, eu]
  obtain ⟨h2, eh2⟩ : ∃ h2, h2 = h'.push { cls := .type "list", data := .seq (as.map Value.ref).toArray } := ⟨_, rfl⟩
  have hob : h2.get? h'.objs.size = some (seqObj "list" (as.map Value.ref).toArray 0) := by rw [eh2]; exact Heap.get?_push_size _ rfl
  have kb : ∀ b o, h'.get? b = some o → h2.get? b = some o := fun b o e => by rw [eh2]; exact Heap.get?_push_of_some _ e
  have ne0 : ∀ b o, h'.get? b = some o → b ≠ h'.objs.size := fun b o e => Nat.ne_of_lt (Heap.lt_size e)
  rw [← eh2]
  refine TS.call_sort_tups (s := { s with heap := h2, toks := tk }) (vs := as.map Value.ref) (d := 2) (B := 1000000) hob (by rw [List.length_map]; omega) (by decide) (fun v hv => ?_) fun out o1 o2 => ?_
  · obtain ⟨b, hb, rfl⟩ := List.mem_map.mp hv
    obtain ⟨j, hj⟩ := List.mem_iff_getElem?.mp hb
    obtain ⟨m, t, u, hm, hg⟩ := pr j b hj
    have hbm := hB m (List.mem_of_getElem? hm)
    refine ⟨[(m.1 : Int), (m.2 : Int)], ⟨b, _, rfl, ⟨_, kb _ _ hg, rfl, 0, rfl⟩, .cons _ t (.cons _ u .nil)⟩, rfl, fun x hx => ?_⟩
    rcases List.mem_cons.mp hx with e | hx
    · subst e; omega
    · rw [List.mem_singleton.mp hx]; omega
  · show EP X pins σ Q (.ref h'.objs.size) { s with heap := sortedHeap h2 h'.objs.size (as.map Value.ref) out, toks := tk }
    obtain ⟨zs, pz, ez⟩ := perm_lift (fun z : Addr × Nat × Nat => Value.ref z.1) o1 (as.zip ns) (map_zip_fst Value.ref as ns lak)
    have idx : ∀ z ∈ zs, ∃ j : Nat, as[j]? = some z.1 ∧ ns[j]? = some z.2 := fun z hz => by
      obtain ⟨j, hj⟩ := List.mem_iff_getElem?.mp (pz.mem_iff.mp hz)
      exact ⟨j, List.getElem?_zip_eq_some.mp hj⟩
    have hperm : (zs.map (·.2)).Perm ns := by
      have e := pz.map (·.2)
      rwa [List.map_snd_zip (by rw [lak]; exact Nat.le_refl _)] at e
    have kF : ∀ b o, b ≠ h'.objs.size → h2.get? b = some o → (sortedHeap h2 h'.objs.size (as.map Value.ref) out).get? b = some o := fun b o hb e => (PyProof.Rows.sortedHeap_old hb (Heap.lt_size e)).trans e
    have kS : ∀ b o, s.heap.get? b = some o → (sortedHeap h2 h'.objs.size (as.map Value.ref) out).get? b = some o := fun b o e => kF b o (ne0 _ _ (hk b o e)) (kb b o (hk b o e))
    obtain ⟨eF, heF⟩ := PyProof.Rows.sortedHeap_at (vs := as.map Value.ref) (out := out) hob
    have I1 : Inv X pins σ H { s with heap := sortedHeap h2 h'.objs.size (as.map Value.ref) out, toks := tk } := I.kept (t' := tk) kS
    have hn0 : H h'.objs.size = none := I.hok.fresh (Nat.le_of_lt hlt)
    have rv : Vals (zs.map fun z => V.ref z.1) out.toList := by
      rw [← ez]
      exact vals_maps (fun z : Addr × Nat × Nat => V.ref z.1) (fun z => Value.ref z.1) zs fun _ _ => rfl
    have hlen : (zs.map fun z => V.ref z.1).length ≤ sizeLine := by
      have e := hperm.length_eq
      rw [List.length_map] at e
      rw [List.length_map, sizeLine_eq]
      omega
    have I2 : Inv X pins σ (upd H h'.objs.size (.lst (zs.map fun z => V.ref z.1))) { s with heap := sortedHeap h2 h'.objs.size (as.map Value.ref) out, toks := tk } :=
      I1.take (h' := sortedHeap h2 h'.objs.size (as.map Value.ref) out) (t' := tk) (fun b ob _ e => e) (I.fpOk (Nat.le_of_lt hlt) hn0) ⟨hlen, out.toList, eF, rv, heF⟩
    obtain ⟨H2, I3, g, qt⟩ := L2.DX.takeT (P := fun b ws => ∃ (j : Nat) (m : Nat × Nat), as[j]? = some b ∧ ns[j]? = some m ∧ ws = [vn m.1, vn m.2]) I as _ I2 nd fun b hb => by
      obtain ⟨j, hj⟩ := List.mem_iff_getElem?.mp hb
      obtain ⟨m, t, u, hm, hg⟩ := pr j b hj
      have hbl : s.heap.objs.size ≤ b := Nat.le_of_lt (hG.above b hb)
      refine ⟨hbl, ?_, [vn m.1, vn m.2], ⟨j, m, hj, hm, rfl⟩, fun H3 => ⟨by show 2 ≤ sizeLine; decide, [.int (m.1 : Int) t, .int (m.2 : Int) u], .cons ⟨t, rfl⟩ (.cons ⟨u, rfl⟩ .nil), ⟨_, kF _ _ (ne0 _ _ hg) (kb _ _ hg), rfl, 0, rfl⟩⟩⟩
      rw [upd_ne (ne0 _ _ hg)]
      exact I.hok.fresh hbl
    refine ⟨.ref h'.objs.size, H2, I3, rfl, q H2 h'.objs.size zs (fun b o e => g b o (by rw [upd_ne (ne_of_none e hn0)]; exact e)) hperm (g _ _ upd_same) fun z hz => ?_⟩
    obtain ⟨i, i1, i2⟩ := idx z hz
    obtain ⟨ws, ⟨j, m, j1, j2, ev⟩, hH⟩ := qt z.1 (List.mem_of_getElem? i1)
    have eij : i = j := (List.getElem?_inj (List.getElem?_eq_some_iff.mp i1).1 nd).mp (i1.trans j1.symm)
    subst eij
    have ee : m = z.2 := Option.some.inj (j2.symm.trans i2)
    rw [hH, ev, ee]
end Rg

/-! The mirror, continued: the counted routes. -/
namespace Rg
def eqL : List Nat → List Nat → Bool
  | [], [] => true
  | x :: xs, y :: ys => Nat.beq x y && eqL xs ys
  | _, _ => false
/-- a row as one number -/
def cd : List Nat → Nat
  | [] => 0
  | d :: r => d * 200 ^ r.length + cd r
def insU (x : List Nat) : List (List Nat) → List (List Nat)
  | [] => [x]
  | y :: ys => if Nat.beq (cd x) (cd y) then y :: ys else if Nat.blt (cd x) (cd y) then x :: y :: ys else y :: insU x ys
def afterRows (g : List Nat) (edge : List (List Nat)) : List (List Nat) := edge.flatMap fun r => (waysOn r g).map (stepped r)
def nextEdge (g : List Nat) (edge : List (List Nat)) : List (List Nat) := (afterRows g edge).foldl (fun l x => insU x l) []
def addU (found : List (List Nat)) (r : List Nat) : List (List Nat) := if found.any (eqL r) then found else found ++ [r]
def bfs : Nat → List Nat → List (List Nat) → List (List Nat) → List (List Nat)
  | 0, _, _, found => found
  | k + 1, g, edge, found => match edge with
    | [] => found
    | _ => bfs k g (nextEdge g edge) ((nextEdge g edge).foldl addU found)
def insSum (x : List Nat) : List (List Nat) → List (List Nat)
  | [] => [x]
  | y :: ys => if Nat.ble y.sum x.sum then y :: insSum x ys else x :: y :: ys
def sortSum (l : List (List Nat)) : List (List Nat) := l.foldl (fun l x => insSum x l) []
def bfsOk : Nat → List Nat → List (List Nat) → Bool
  | 0, _, e => e.isEmpty
  | k + 1, g, e => e.isEmpty || (Nat.blt (afterRows g e).length 64 && bfsOk k g (nextEdge g e))
def rowsOn (f g : List Nat) : List (List Nat) := sortSum (bfs 12 g [f] [f])
def look {β : Type} (d : List (List Nat × β)) (r : List Nat) : Option β := (d.find? fun kv => eqL kv.1 r).map (·.2)
def lookN (d : List (Nat × Nat)) (k : Nat) : Nat := ((d.find? fun p => Nat.beq p.1 k).map (·.2)).getD 0
def putN (d : List (Nat × Nat)) (k m : Nat) : List (Nat × Nat) := if d.any (fun p => Nat.beq p.1 k) then d.map (fun p => if Nat.beq p.1 k then (p.1, m) else p) else d ++ [(k, m)]
def bump (d : List (Nat × Nat)) (k m : Nat) : List (Nat × Nat) := putN d k (lookN d k + m)
def putL {β : Type} (d : List (List Nat × β)) (r : List Nat) (x : β) : List (List Nat × β) := if d.any (fun p => eqL p.1 r) then d.map (fun p => if eqL p.1 r then (p.1, x) else p) else d ++ [(r, x)]
def lensRow (g r : List Nat) (found : List (List Nat × List (Nat × Nat))) : List (Nat × Nat) :=
  (waysOn r g).foldl (fun own j => ((look found (stepped r j)).getD []).foldl (fun own p => bump own (p.1 + 1) p.2) own) (if eqL r g then [(0, 1)] else [])
/-- row after row: all steps from it lead to rows that are known, and few lengths -/
def lensRun (g : List Nat) : List (List Nat) → List (List Nat × List (Nat × Nat)) → Option (List (List Nat × List (Nat × Nat)))
  | [], found => some found
  | r :: rs, found => if (waysOn r g).all (fun j => found.any fun p => eqL p.1 (stepped r j)) && Nat.ble (lensRow g r found).length 60 then lensRun g rs (putL found r (lensRow g r found)) else none
def lensOn (rows : List (List Nat)) (g : List Nat) : List (List Nat × List (Nat × Nat)) := (lensRun g rows.reverse []).getD []
def manyTo (rows : List (List Nat)) (g : List Nat) : List (List Nat × Nat) :=
  rows.foldl (fun found r => (waysOn r g).foldl (fun found j => putL found (stepped r j) ((look found (stepped r j)).getD 0 + (look found r).getD 0)) found)
    (putL (rows.foldl (fun d r => putL d r 0) []) (rows.headD []) 1)
def closed (g : List Nat) (rows : List (List Nat)) : Bool := rows.all fun r => (waysOn r g).all fun j => rows.any (eqL (stepped r j))
structure D where
  first : List Nat
  goal : List Nat
  lens : List (List Nat × List (Nat × Nat))
  to : List (List Nat × Nat)
def mk (s t : T) : D := let rows := rowsOn s.reach t.reach; ⟨s.reach, t.reach, lensOn rows t.reach, manyTo rows t.reach⟩
def sumV (d : List (Nat × Nat)) : Nat := (d.map (·.2)).sum
def D.onFrom (d : D) (r : List Nat) : Nat := sumV ((look d.lens r).getD [])
def D.many (d : D) : Nat := d.onFrom d.first
def D.behind (d : D) : List Nat → List Nat → Option (List Nat)
  | r, [] => some r
  | r, j :: js => if (waysOn r d.goal).any (Nat.beq j) then d.behind (stepped r j) js else none
def D.beginning (d : D) (js : List Nat) : Nat := match d.behind d.first js with
  | none => 0
  | some r => d.onFrom r
def D.has (d : D) (js : List Nat) : Bool := match d.behind d.first js with
  | none => false
  | some r => eqL r d.goal
def D.through (d : D) (t : T) : Nat := (look d.to t.reach).getD 0 * d.onFrom t.reach
def onF : Nat → T → T → Nat
  | 0, _, _ => 0
  | k + 1, s, t => if eqL s.reach t.reach then 1 else ((s.after.filter fun x => goes x t).map fun x => onF k x t).sum
def D.adds (d : D) (size : Nat) : Nat → List Nat → Bool
  | deep, js =>
    if d.has js then Nat.beq (d.beginning js) 1 else
    let parts := (List.range (size + 1)).map fun k => d.beginning (js ++ [k])
    Nat.beq parts.sum (d.beginning js) && (match deep with
      | 0 => true
      | deep + 1 => (List.range (size + 1)).all fun k => if Nat.blt 0 (parts.getD k 0) then d.adds size deep (js ++ [k]) else true)
def stops (d : D) : Nat := (((look d.lens d.first).getD []).map fun p => (p.1 + 1) * p.2).sum
def caseOk (s t : T) : Bool :=
  let d := mk s t
  let ev := every 7 1 (s.reach.length + 1)
  d.adds s.reach.length 3 [] && Nat.beq d.many (onF 20 s t) && Nat.beq ((ev.map d.through).sum) (stops d) && Nat.beq (d.through s) d.many &&
   ev.all fun o => if goes s o && goes o t then Nat.beq (d.through o) (onF 20 s o * onF 20 o t) else Nat.beq (d.through o) 0
end Rg

/-! sorted(d, key=sum), d's keys rows of numbers -/
namespace Rg
open PySem PySem.Spec PyProof.Rows L2
/-! ### the order -/
def leS (a b : List Nat) : Bool := Nat.ble a.sum b.sum
theorem leS_total : PySem.W.TotalLe leS := ⟨fun a b c h1 h2 => Nat.ble_eq_true_of_le (Nat.le_trans (Nat.le_of_ble_eq_true h1) (Nat.le_of_ble_eq_true h2)), fun a b => by
  rcases Nat.le_total a.sum b.sum with h | h
  · exact .inl (Nat.ble_eq_true_of_le h)
  · exact .inr (Nat.ble_eq_true_of_le h)⟩
theorem ins_mem {x y : List Nat} : ∀ {l : List (List Nat)}, y ∈ insSum x l → y = x ∨ y ∈ l
  | [], h => .inl (List.mem_singleton.mp h)
  | z :: zs, h => by
    unfold insSum at h
    split at h
    · rcases List.mem_cons.mp h with e | h
      · exact .inr (by rw [e]; exact List.mem_cons_self ..)
      · rcases ins_mem h with e | h
        · exact .inl e
        · exact .inr (List.mem_cons_of_mem _ h)
    · rcases List.mem_cons.mp h with e | h
      · exact .inl e
      · exact .inr h
theorem ins_sorted {x : List Nat} : ∀ {l : List (List Nat)}, l.Pairwise (fun a b => leS a b = true) → (insSum x l).Pairwise (fun a b => leS a b = true)
  | [], _ => List.pairwise_singleton _ _
  | z :: zs, h => by
    obtain ⟨h1, h2⟩ := List.pairwise_cons.mp h
    unfold insSum
    split
    · rename_i hz
      refine List.pairwise_cons.mpr ⟨fun y hy => ?_, ins_sorted h2⟩
      rcases ins_mem hy with e | hy
      · rw [e]; exact hz
      · exact h1 y hy
    · rename_i hz
      have hz' : Nat.ble x.sum z.sum = true := Nat.ble_eq_true_of_le (by
        rcases Nat.le_total z.sum x.sum with q | q
        · exact absurd (Nat.ble_eq_true_of_le q) hz
        · exact q)
      refine List.pairwise_cons.mpr ⟨fun y hy => ?_, h⟩
      rcases List.mem_cons.mp hy with e | hy
      · rw [e]; exact hz'
      · exact leS_total.trans _ _ _ hz' (h1 y hy)
theorem ins_filter {x c : List Nat} : ∀ {l : List (List Nat)}, l.Pairwise (fun a b => leS a b = true) → (insSum x l).filter (PySem.W.sameRank leS c) = l.filter (PySem.W.sameRank leS c) ++ [x].filter (PySem.W.sameRank leS c)
  | [], _ => rfl
  | z :: zs, h => by
    obtain ⟨h1, h2⟩ := List.pairwise_cons.mp h
    unfold insSum
    split
    · rw [List.filter_cons, List.filter_cons, ins_filter h2]
      split <;> rfl
    · rename_i hz
      cases hx : PySem.W.sameRank leS c x with
      | false =>
        have e : [x].filter (PySem.W.sameRank leS c) = [] := by rw [List.filter_cons, hx]; rfl
        rw [e, List.append_nil, List.filter_cons, hx]
        rfl
      | true =>
        have e : (z :: zs).filter (PySem.W.sameRank leS c) = [] := by
          refine List.filter_eq_nil_iff.mpr fun y hy hr => ?_
          unfold PySem.W.sameRank at hx hr
          rw [Bool.and_eq_true] at hx hr
          have q1 : leS y x = true := leS_total.trans _ c _ hr.2 hx.1
          have q2 : leS z y = true := by
            rcases List.mem_cons.mp hy with e | hy
            · rw [e]; exact leS_total.refl _
            · exact h1 y hy
          exact hz (leS_total.trans _ _ _ q2 q1)
        rw [List.filter_cons, hx, e]
        rw [List.filter_cons, hx]
        rfl
theorem sortSum_at (c : List Nat) : ∀ (l acc : List (List Nat)), acc.Pairwise (fun a b => leS a b = true) → (l.foldl (fun l x => insSum x l) acc).Pairwise (fun a b => leS a b = true) ∧
    (l.foldl (fun l x => insSum x l) acc).filter (PySem.W.sameRank leS c) = acc.filter (PySem.W.sameRank leS c) ++ l.filter (PySem.W.sameRank leS c)
  | [], acc, h => ⟨h, (List.append_nil _).symm⟩
  | x :: l, acc, h => by
    obtain ⟨h1, h2⟩ := sortSum_at c l (insSum x acc) (ins_sorted h)
    refine ⟨h1, h2.trans ?_⟩
    rw [ins_filter h, List.append_assoc, ← List.filter_append]
    rfl
theorem sortSum_eq (l : List (List Nat)) : l.mergeSort leS = sortSum l :=
  (PySem.W.sort_unique leS_total (sortSum_at [] l [] .nil).1 fun c => (sortSum_at c l [] .nil).2.trans (List.nil_append _)).symm
/-! ### sum of a tuple of numbers -/
theorem sum_cast : ∀ ns : List Nat, (ns.map fun n : Nat => (n : Int)).sum = ((ns.sum : Nat) : Int)
  | [] => rfl
  | n :: ns => by rw [List.map_cons, List.sum_cons, List.sum_cons, sum_cast ns]; omega
section
variable {prog : Program} {w : World} {A : Around} {E : Value → Shared → Prop} {s : Shared}
theorem sum_tup {a : Addr} {ns : List Nat} {vs : List Value} {Q : Value → Shared → Prop} (hh : A.handled = none) (ht : s.heap.IsTuple a vs.toArray) (rv : Vals (rowV ns) vs)
    (h : ∀ h' tk t', (∀ b o, s.heap.get? b = some o → h'.get? b = some o) → Q (.int ((ns.sum : Nat) : Int) t') { s with heap := h', toks := tk }) :
    wpAny (model prog w) A (call (.builtin "sum") [.ref a]) Q E s := by
  refine call_sum_walkAnyS (wpAny_pyIter_tuple ht ?_)
  have hlt : a < s.heap.objs.size := by obtain ⟨_, ho, _⟩ := ht; exact Heap.lt_size ho
  have hl : vs.length = ns.length := by rw [← rv.length, List.length_map]
  refine ⟨_, _, _, _, _, _, _, fun i => (ns.map fun n : Nat => (n : Int)).getD i 0, rfl, (Walks.tuple (A := A.in1) hh s.heap.objs.size a (Nat.ne_of_lt hlt) vs.toArray).toS, ⟨⟨_, Heap.get?_push_size _ rfl, rfl, rfl⟩, ht.push _⟩, fun c hc => ?_, fun i v hv => ?_, fun s' t' hm => ?_⟩
  · show c < (s.heap.push _).objs.size
    rw [Heap.size_push]
    rcases List.mem_cons.mp hc with e | hc
    · rw [e]; exact Nat.lt_succ_self _
    · rw [List.mem_singleton.mp hc]; exact Nat.lt_succ_of_lt hlt
  · have hv' : vs[i]? = some v := by simpa using hv
    obtain ⟨x, hx, rx⟩ := PairedGetR rv hv'
    rw [List.getElem?_map] at hx
    obtain ⟨n, hn, e⟩ := Option.map_eq_some_iff.mp hx
    subst e
    obtain ⟨t, rfl⟩ := rx
    refine ⟨t, ?_⟩
    have : (ns.map fun n : Nat => (n : Int)).getD i 0 = (n : Int) := by rw [List.getD_eq_getElem?_getD, List.getElem?_map, hn]; rfl
    show Value.int (n : Int) t = Value.int ((ns.map fun n : Nat => (n : Int)).getD i 0) t
    rw [this]
  · have hk : ∀ b o, s.heap.get? b = some o → s'.heap.get? b = some o := fun b o e =>
      hm.heap b o (fun hI => absurd (Heap.lt_size e) (by rw [List.mem_singleton.mp hI]; exact Nat.lt_irrefl _)) (Heap.get?_push_of_some _ e)
    have e1 : preSum (fun i => (ns.map fun n : Nat => (n : Int)).getD i 0) vs.toArray.size = ((ns.sum : Nat) : Int) := by
      rw [List.size_toArray, hl]
      have := preSum_take (ns.map fun n : Nat => (n : Int)) ns.length (by rw [List.length_map]; exact Nat.le_refl _)
      rw [this, List.take_of_length_le (by rw [List.length_map]; exact Nat.le_refl _)]
      exact sum_cast ns
    rw [PySem.Moved.eq_with hm, e1]
    exact h s'.heap s'.toks t' hk
end
/-! ### the call -/
/-- a row as a key -/
def rk (r : List Nat) : List L2.Key := r.map fun n : Nat => (Sum.inl (n : Int) : L2.Key)
theorem rk_vals (r : List Nat) : (rk r).map kV = rowV r := by
  unfold rk
  rw [List.map_map]
  rfl
abbrev rT (r : List Nat) : List L2.Key × V := (rk r, V.bl true)
def tSortSum (t : TA) : TE := fun σ H Q => t σ H fun vs H1 => ∃ (d : Addr) (fs : List (List Nat)), vs = [.ref d] ∧ H1 d = some (.dT (fs.map rT)) ∧ fs.length ≤ 1000 ∧
  ∀ (H' : Hp) (l : Addr) (xs : List V), Same H1 H' → H' l = some (.lst xs) → Paired (RowAt H') (sortSum fs) xs → Q (.ref l) H'
theorem each_paired {α β : Type} {R : α → β → Prop} : ∀ {as : List α} {bs : List β}, PySem.W.EachIs R as bs → Paired R as bs
  | _, _, .nil => .nil
  | _, _, .cons h t => .cons h (each_paired t)
theorem sort_each_fst {α β : Type} {f : α → β} {l : List α} {r : α → α → Bool} {q : β → β → Bool} (h : ∀ a b, r a b = q (f a) (f b)) : (l.mergeSort r).map f = (l.map f).mergeSort q :=
  PySem.W.sort_maps f fun a _ b _ => h a b
theorem kt_pairs {H : Hp} : ∀ {fs : List (List Nat)} {xs : List (List L2.Key × Addr × Value)}, KT H (fs.map rT) xs → ∃ bs : List (Addr × List Nat), bs.map (·.2) = fs ∧ bs.map (fun b => Value.ref b.1) = xs.map (fun x => Value.ref x.2.1) ∧ ∀ b ∈ bs, H b.1 = some (.tup (rowV b.2))
  | [], _, .nil => ⟨[], rfl, rfl, fun _ h => nomatch h⟩
  | f :: fs, x :: xs, .cons h t => by
    obtain ⟨bs, h1, h2, h3⟩ := kt_pairs t
    refine ⟨(x.2.1, f) :: bs, by rw [List.map_cons, h1], by rw [List.map_cons, List.map_cons, h2], fun b hb => ?_⟩
    rcases List.mem_cons.mp hb with e | hb
    · subst e
      have e := h.2.1
      rw [rk_vals] at e
      exact e
    · exact h3 b hb
theorem each_self {α β : Type} {R : β → α → Prop} (f : α → β) : ∀ (bs : List α), (∀ b ∈ bs, R (f b) b) → PySem.W.EachIs R (bs.map f) bs
  | [], _ => .nil
  | b :: bs, h => .cons (h b (List.mem_cons_self ..)) (each_self f bs fun c hc => h c (List.mem_cons_of_mem _ hc))
theorem paired_self {α β γ : Type} {R : γ → β → Prop} (f : α → β) (g : α → γ) : ∀ (bs : List α), (∀ b ∈ bs, R (g b) (f b)) → Paired R (bs.map g) (bs.map f)
  | [], _ => .nil
  | b :: bs, h => .cons (h b (List.mem_cons_self ..)) (paired_self f g bs fun c hc => h c (List.mem_cons_of_mem _ hc))
theorem each_map {α β : Type} {R : β → α → Prop} {f : α → β} (h : ∀ v b, R v b → v = f b) : ∀ {vs : List β} {bs : List α}, PySem.W.EachIs R vs bs → vs = bs.map f
  | _, _, .nil => rfl
  | _, _, .cons q t => by rw [List.map_cons, h _ _ q, each_map h t]
theorem run_sortSum {X : Cx} {pins : List (Addr × Obj)} {σ : L2.St} {H : Hp} {s : Shared} {d : Addr} {fs : List (List Nat)} {Q : VK} (hu : X.A.units + 64 < cLine) (hc : X.calm = true) (I : Inv X pins σ H s) (hd : H d = some (.dT (fs.map rT))) (hn : fs.length ≤ 1000)
    (q : ∀ (H' : Hp) (l : Addr) (xs : List V), Same H H' → H' l = some (.lst xs) → Paired (RowAt H') (sortSum fs) xs → Q (.ref l) H') :
    wpAny (model X.prog X.w) X.A (call (.builtin "sorted") [.ref d] [(Str.ofString "key", .builtin "sum")]) (EP X pins σ Q) X.xe s := by
  have hh := I.ok.hd hc
  obtain ⟨z, hsys, xs, rel, o, es, ep, h1, h2, h3, h4, h5, h6⟩ := dt_of I.hok hd
  obtain ⟨bs, b1, b2, b3⟩ := kt_pairs rel
  have lx : xs.length = fs.length := by rw [← rel.length, List.length_map]
  have les : es.size = xs.length := by rw [← Array.length_toList, h4, List.length_map]
  have lbs : bs.length = fs.length := by rw [← b1, List.length_map]
  refine call_function_entry_kw kind_sorted plain_sorted entry_sorted (PyProof.Rows.ksk_s1 _ _) ?_
  unfold Builtin.«sorted»
  refine wpAny_bind (m := checkCount "sorted" 1 1 _) (wpAny_pure ?_)
  refine wpAny_bind (PySem.W.kdu_collect (A := X.A.in1) (KdlSrc.rawDict (es := es) (ep := ep) hsys) hh ⟨o, h1, h2, h3⟩ (by rw [les, lx]; exact sz1000 hn) fun h' tk acc hk hacc => ?_)
  have eacc : acc.toList = bs.map fun b => Value.ref b.1 := by
    rw [b2]
    apply List.ext_getElem
    · rw [Array.length_toList, hacc.1, List.length_map, les]
    · intro i i1 i2
      obtain ⟨hi, e⟩ := hacc.2 i acc.toList[i] (by rw [← Array.getElem?_toList]; exact List.getElem?_eq_getElem i1)
      rw [e, List.getElem_map]
      have hx : i < xs.length := by omega
      have e2 : es.toList[i]? = (xs.map (entryOfKey (tupleKind (mixKind X.prog X.w))))[i]? := by rw [h4]
      rw [List.getElem?_map, List.getElem?_eq_getElem hx, Array.getElem?_toList, Array.getElem?_eq_getElem hi] at e2
      rw [Option.some.inj e2]
      rfl
  rw [eacc]
  refine wpAny_bind (wpAny_newList ?_ (by rw [List.length_map, lbs]; exact sz1000 hn))
  obtain ⟨h2', eh2⟩ : ∃ h2', h2' = h'.push (seqObj "list" (bs.map fun b => Value.ref b.1).toArray 0) := ⟨_, rfl⟩
  have hob : h2'.get? h'.objs.size = some (seqObj "list" (bs.map fun b => Value.ref b.1).toArray 0) := by rw [eh2]; exact Heap.get?_push_size _ rfl
  have kb : ∀ b o, s.heap.get? b = some o → h2'.get? b = some o := fun b o e => by rw [eh2]; exact Heap.get?_push_of_some _ (hk b o e)
  have ne0 : ∀ b o, s.heap.get? b = some o → b ≠ h'.objs.size := fun b o e => Nat.ne_of_lt (Heap.lt_size (hk b o e))
  have hgo : s.heap.get? h'.objs.size = none := by
    cases e : s.heap.get? h'.objs.size with
    | none => rfl
    | some o => exact absurd rfl (ne0 _ _ e)
  show wpAny _ _ _ _ _ { s with heap := h'.push (seqObj "list" (bs.map fun b => Value.ref b.1).toArray 0), toks := tk }
  rw [← eh2]
  suffices hg : wpAny (model X.prog X.w) X.A.in1 (call (.builtin "list.sort") [.ref h'.objs.size] [(Str.ofString "key", .builtin "sum")]) (fun _ s' => EP X pins σ Q (.ref h'.objs.size) s') X.xe { s with heap := h2', toks := tk } from
    wpAny_bind (wpAny_holding (wpAny_mono hg (fun _ s' x => wpAny_pure ⟨_, rfl, x⟩) fun _ _ e => e))
  refine PySem.W.list_sort_key_data (A := X.A.in1) (s := { s with heap := h2', toks := tk }) (b := false) (R := fun v (b : Addr × List Nat) => v = Value.ref b.1 ∧ H b.1 = some (.tup (rowV b.2))) (bs := bs) (fun b => PyData.int ((b.2.sum : Nat) : Int)) hob
    (each_self _ bs fun b hb => ⟨rfl, b3 b hb⟩) (PySem.W.AllAlike.of fun _ _ => by simp [PySem.W.alike]) (PySem.W.Sortable.others fun _ => ⟨(fun h => nomatch h), (fun _ h => nomatch h)⟩) (by rw [lbs]; exact sz1000 hn) (fun b _ => ?_) (PyProof.Rows.ksk_l1 _ _) (PyProof.Rows.ksk_t4 _ _)
    (fun v b hR hb h tk2 kp => ?_) fun out c h3 tk3 kp hD hlo ho => ?_
  · show X.A.units + 1 + 1 + 0 < cLine
    omega
  · obtain ⟨rfl, hb3⟩ := hR
    obtain ⟨its, rv, p, _⟩ := I.tuple (SqT.of hb3)
    have pt : h.IsTuple b.1 its.toArray := let ⟨o, e, r⟩ := p; ⟨o, kp _ _ (ne0 _ _ e) (kb _ _ e), r⟩
    refine sum_tup (A := X.A.in1.in1) (s := { s with heap := h, toks := tk2 }) hh pt rv fun h' tk' t' hk' => ?_
    exact ⟨h', tk', rfl, hk', .int _ _⟩
  · rw [PySem.W.dataLe_int (fun b : Addr × List Nat => ((b.2.sum : Nat) : Int))] at ho
    have ez : (bs.mergeSort fun a b => decide (((a.2.sum : Nat) : Int) ≤ ((b.2.sum : Nat) : Int))).map (·.2) = sortSum fs := by
      rw [sort_each_fst (f := fun b : Addr × List Nat => b.2) (q := leS) (fun a b => ?_), b1, sortSum_eq]
      unfold leS
      cases hb : Nat.ble a.2.sum b.2.sum with
      | true => exact decide_eq_true (by have := Nat.le_of_ble_eq_true hb; omega)
      | false =>
        refine decide_eq_false fun h => ?_
        have : Nat.ble a.2.sum b.2.sum = true := Nat.ble_eq_true_of_le (by omega)
        rw [hb] at this
        cases this
    have eo : out = (bs.mergeSort fun a b => decide (((a.2.sum : Nat) : Int) ≤ ((b.2.sum : Nat) : Int))).map fun b => Value.ref b.1 := each_map (fun v b h => h.1) ho
    have mz : ∀ b ∈ bs.mergeSort fun a b => decide (((a.2.sum : Nat) : Int) ≤ ((b.2.sum : Nat) : Int)), b ∈ bs := fun b hb => List.mem_mergeSort.mp hb
    generalize (bs.mergeSort fun a b => decide (((a.2.sum : Nat) : Int) ≤ ((b.2.sum : Nat) : Int))) = zs at ez eo mz
    subst eo
    have hn0 : H h'.objs.size = none := I.hok.gone hgo
    have s2 : Same H (upd H h'.objs.size (.lst (zs.map fun b => V.ref b.1))) := same_new hn0
    refine ⟨.ref h'.objs.size, upd H h'.objs.size (.lst (zs.map fun b => V.ref b.1)), I.laidN (h' := h3) (t' := tk3) (fun b o e => kp _ _ (ne0 _ _ e) (kb _ _ e)) hgo hn0 ⟨?_, zs.map fun b => Value.ref b.1, c, vals_maps (fun b : Addr × List Nat => V.ref b.1) (fun b => Value.ref b.1) zs fun _ _ => rfl, hD⟩, rfl, q _ _ _ s2 upd_same ?_⟩
    · rw [List.length_map] at hlo ⊢
      rw [hlo, lbs]
      exact sz1000 hn
    · rw [← ez]
      exact paired_self _ _ zs fun b hb => ⟨b.1, rfl, s2 _ _ (b3 b (mz b hb))⟩
theorem pe_sortSum {X : Cx} {e : Expr} {t : TA} {p p2 p3 pos : Pos} (hu : X.A.units + 64 < cLine) (hc : X.calm = true) (hg : Gl X "sorted") (hm : X.mg "sorted" = none) (hg2 : Gl X "sum") (hm2 : X.mg "sum" = none) (ha : PA X [e] t)
    (hst : backTo pos (starEach [e] X.env) = (false, eval e X.env) :: backTo pos (starEach [] X.env) := by rfl) (hpl : (backTo pos (starEach [e] X.env)).any (·.1) = false := by rfl) :
    PE X (.Call (.Name "sorted" p) [e] [⟨some "key", .Name "sum" p2, p3⟩] pos) (tSortSum t) := by
  refine ⟨fun pins s σ H Q I h => ?_⟩
  have hb1 : bootBuiltins "sorted" = some (Value.builtin "sorted") := by decide +kernel
  have hb2 : bootBuiltins "sum" = some (Value.builtin "sum") := by decide +kernel
  refine wpAny_Call_Name_kw (ld_blt I hg hm hb1 ?_ (by decide) (by decide))
  refine PyProof.Rows.callWith_kw (thn (ha.run pos pins s σ H _ I h) fun us s1 ⟨vs, H1, I1, r1, d, fs, ex, hd, hn, q⟩ => ?_) hst hpl (by rfl) (by rfl)
  subst ex
  rw [Vals.ref1 r1]
  refine wpAny_evalAll_cons (wpAny_bind (ld_blt I1 hg2 hm2 hb2 (wpAny_bind (wpAny_standAt (wpAny_pure (wpAny_evalAll_nil ?_)))) (by decide) (by decide)))
  exact run_sortSum hu hc I1 hd hn q
end Rg

/-! the order of the next rows; found rows as a dict's keys -/
namespace Rg
open PySem PySem.Spec PyProof.Rows L2
/-- the turns of a walk, whatever each does -/
theorem walk_any {J : It} {n : Nat} {G : Hp → Prop} {Y : Nat → Hp → V → Hp → Prop} (w : Walk J n G Y) {H0 : Hp} {Qd : Hp → Prop} (body : V → Hp → (Hp → Prop) → Prop) (Pv : Nat → Hp → Prop) (h0 : Pv 0 H0) (hG : ∀ i H, i ≤ n → Pv i H → G H)
    (hs : ∀ i x H H', i < n → Pv i H → Y i H x H' → body x H' (Pv (i + 1))) (hd : ∀ H, Pv n H → Qd H) :
    ∃ W : Nat → Nat → Hp → Prop, (∃ m, W 0 m H0) ∧ ∀ i m H, W i m H →
      (J.stop i H ∧ Qd H) ∨ (J.go i H ∧ ∃ Nx : Hp → Prop, (∀ H', Nx H' → ∃ m', m' < m ∧ W (i + 1) m' H') ∧ ∀ x H', J.yld i H x H' → body x H' Nx) := by
  refine ⟨fun i m H => m = n - i ∧ i ≤ n ∧ Pv i H, ⟨n, by simp, Nat.zero_le _, h0⟩, ?_⟩
  rintro i m H ⟨rfl, hi, p⟩
  have q := hG i H hi p
  by_cases hlt : i < n
  · exact .inr ⟨w.goes i H hlt q, Pv (i + 1), fun H' p' => ⟨n - (i + 1), by omega, rfl, hlt, p'⟩, fun x H' y => hs i x H H' hlt p (w.yields i H x H' hlt q y)⟩
  · have e : i = n := by omega
    subst e
    exact .inl ⟨w.stops H q, hd H p⟩
/-! ### rows as numbers -/
def Sm (n : Nat) (r : List Nat) : Prop := r.length = n ∧ ∀ x ∈ r, x < 200
theorem cd_bd : ∀ {r : List Nat}, (∀ x ∈ r, x < 200) → cd r < 200 ^ r.length
  | [], _ => by decide
  | d :: r, h => by
    have h1 := cd_bd (r := r) fun x hx => h x (List.mem_cons_of_mem _ hx)
    have h2 := h d (List.mem_cons_self ..)
    show d * 200 ^ r.length + cd r < 200 ^ (r.length + 1)
    rw [Nat.pow_succ]
    have h3 : (d + 1) * 200 ^ r.length ≤ 200 * 200 ^ r.length := Nat.mul_le_mul_right _ h2
    rw [Nat.add_mul, Nat.one_mul] at h3
    rw [Nat.mul_comm (200 ^ r.length) 200]
    omega
theorem cd_inj : ∀ {r q : List Nat}, r.length = q.length → (∀ x ∈ r, x < 200) → (∀ x ∈ q, x < 200) → cd r = cd q → r = q
  | [], [], _, _, _, _ => rfl
  | [], _ :: _, h, _, _, _ => by simp at h
  | _ :: _, [], h, _, _, _ => by simp at h
  | d :: r, e :: q, hl, hr, hq, h => by
    have hl' : r.length = q.length := by simpa using hl
    have r1 := cd_bd (r := r) fun x hx => hr x (List.mem_cons_of_mem _ hx)
    have q1 := cd_bd (r := q) fun x hx => hq x (List.mem_cons_of_mem _ hx)
    have h' : d * 200 ^ r.length + cd r = e * 200 ^ q.length + cd q := h
    rw [← hl'] at h' q1
    have hde : d = e := by
      rcases Nat.lt_trichotomy d e with z | z | z
      · have : (d + 1) * 200 ^ r.length ≤ e * 200 ^ r.length := Nat.mul_le_mul_right _ z
        rw [Nat.add_mul, Nat.one_mul] at this
        omega
      · exact z
      · have : (e + 1) * 200 ^ r.length ≤ d * 200 ^ r.length := Nat.mul_le_mul_right _ z
        rw [Nat.add_mul, Nat.one_mul] at this
        omega
    subst hde
    rw [cd_inj hl' (fun x hx => hr x (List.mem_cons_of_mem _ hx)) (fun x hx => hq x (List.mem_cons_of_mem _ hx)) (by omega)]
theorem Sm.inj {n : Nat} {r q : List Nat} (a : Sm n r) (b : Sm n q) (h : cd r = cd q) : r = q := cd_inj (a.1.trans b.1.symm) a.2 b.2 h
abbrev rI (r : List Nat) : List Int := r.map fun n : Nat => (n : Int)
theorem rI_vals (r : List Nat) : (rI r).map V.int = rowV r := by
  show (r.map _).map _ = r.map vn
  rw [List.map_map]
  rfl
theorem code_cd : ∀ r : List Nat, TS.code 200 (rI r) = ((cd r : Nat) : Int)
  | [] => rfl
  | d :: r => by
    show (d : Int) * 200 ^ (rI r).length + TS.code 200 (rI r) = ((d * 200 ^ r.length + cd r : Nat) : Int)
    rw [code_cd r, List.length_map, Int.natCast_add, Int.natCast_mul, Int.natCast_pow]
    rfl
theorem insU_sub {x y : List Nat} : ∀ {l : List (List Nat)}, y ∈ insU x l → y = x ∨ y ∈ l
  | [], h => .inl (List.mem_singleton.mp h)
  | z :: zs, h => by
    unfold insU at h
    split at h
    · exact .inr h
    · split at h
      · exact List.mem_cons.mp h
      · rcases List.mem_cons.mp h with e | h
        · exact .inr (by rw [e]; exact List.mem_cons_self ..)
        · rcases insU_sub h with e | h
          · exact .inl e
          · exact .inr (List.mem_cons_of_mem _ h)
theorem insU_old {x y : List Nat} : ∀ {l : List (List Nat)}, y ∈ l → y ∈ insU x l
  | z :: zs, h => by
    unfold insU
    split
    · exact h
    · split
      · exact List.mem_cons_of_mem _ h
      · rcases List.mem_cons.mp h with e | h
        · rw [e]; exact List.mem_cons_self ..
        · exact List.mem_cons_of_mem _ (insU_old h)
theorem insU_new {n : Nat} {x : List Nat} (hx : Sm n x) : ∀ {l : List (List Nat)}, (∀ z ∈ l, Sm n z) → x ∈ insU x l
  | [], _ => List.mem_cons_self ..
  | z :: zs, h => by
    unfold insU
    split
    · rename_i e
      rw [hx.inj (h z (List.mem_cons_self ..)) (Nat.eq_of_beq_eq_true e)]
      exact List.mem_cons_self ..
    · split
      · exact List.mem_cons_self ..
      · exact List.mem_cons_of_mem _ (insU_new hx fun q hq => h q (List.mem_cons_of_mem _ hq))
theorem insU_pw {x : List Nat} : ∀ {l : List (List Nat)}, l.Pairwise (fun a b => cd a < cd b) → (insU x l).Pairwise (fun a b => cd a < cd b)
  | [], _ => List.pairwise_singleton _ _
  | z :: zs, h => by
    obtain ⟨h1, h2⟩ := List.pairwise_cons.mp h
    unfold insU
    split
    · exact h
    · rename_i e
      split
      · rename_i hlt
        have hlt' : cd x < cd z := by simpa [Nat.blt_eq] using hlt
        refine List.pairwise_cons.mpr ⟨fun y hy => ?_, h⟩
        rcases List.mem_cons.mp hy with e2 | hy
        · rw [e2]; exact hlt'
        · exact Nat.lt_trans hlt' (h1 y hy)
      · rename_i hge
        have hge' : ¬ cd x < cd z := by simpa [Nat.blt_eq] using hge
        have hne : cd x ≠ cd z := fun q => e (by rw [q]; exact Nat.beq_refl _)
        refine List.pairwise_cons.mpr ⟨fun y hy => ?_, insU_pw h2⟩
        rcases insU_sub hy with e2 | hy
        · rw [e2]; omega
        · exact h1 y hy
theorem insAll {n : Nat} : ∀ (l acc : List (List Nat)), (∀ z ∈ l, Sm n z) → (∀ z ∈ acc, Sm n z) → acc.Pairwise (fun a b => cd a < cd b) →
    (l.foldl (fun l x => insU x l) acc).Pairwise (fun a b => cd a < cd b) ∧ ∀ y, y ∈ l.foldl (fun l x => insU x l) acc ↔ y ∈ acc ∨ y ∈ l
  | [], acc, _, _, h => ⟨h, fun y => ⟨.inl, fun q => q.elim id fun z => nomatch z⟩⟩
  | x :: l, acc, hl, ha, h => by
    have hx := hl x (List.mem_cons_self ..)
    obtain ⟨h1, h2⟩ := insAll l (insU x acc) (fun z hz => hl z (List.mem_cons_of_mem _ hz)) (fun z hz => (insU_sub hz).elim (fun e => e ▸ hx) (ha z)) (insU_pw h)
    refine ⟨h1, fun y => (h2 y).trans ⟨fun q => ?_, fun q => ?_⟩⟩
    · rcases q with q | q
      · rcases insU_sub q with e | q
        · exact .inr (e ▸ List.mem_cons_self ..)
        · exact .inl q
      · exact .inr (List.mem_cons_of_mem _ q)
    · rcases q with q | q
      · exact .inl (insU_old q)
      · rcases List.mem_cons.mp q with e | q
        · exact .inl (e ▸ insU_new hx ha)
        · exact .inr q
theorem pw_one : ∀ {a b : List (List Nat)}, a.Pairwise (fun a b => cd a < cd b) → b.Pairwise (fun a b => cd a < cd b) → (∀ y, y ∈ a ↔ y ∈ b) → a = b
  | [], [], _, _, _ => rfl
  | [], y :: b, _, _, h => absurd ((h y).mpr (List.mem_cons_self ..)) (fun z => nomatch z)
  | x :: a, [], _, _, h => absurd ((h x).mp (List.mem_cons_self ..)) (fun z => nomatch z)
  | x :: a, y :: b, ha, hb, h => by
    obtain ⟨a1, a2⟩ := List.pairwise_cons.mp ha
    obtain ⟨b1, b2⟩ := List.pairwise_cons.mp hb
    have e : x = y := by
      rcases List.mem_cons.mp ((h x).mp (List.mem_cons_self ..)) with e | q
      · exact e
      · rcases List.mem_cons.mp ((h y).mpr (List.mem_cons_self ..)) with e2 | q2
        · exact e2.symm
        · exact absurd (b1 x q) (Nat.lt_asymm (a1 y q2))
    subst e
    rw [pw_one a2 b2 fun z => ⟨fun hz => ?_, fun hz => ?_⟩]
    · rcases List.mem_cons.mp ((h z).mp (List.mem_cons_of_mem _ hz)) with e | q
      · rw [e] at hz; exact absurd (a1 x hz) (Nat.lt_irrefl _)
      · exact q
    · rcases List.mem_cons.mp ((h z).mpr (List.mem_cons_of_mem _ hz)) with e | q
      · rw [e] at hz; exact absurd (b1 x hz) (Nat.lt_irrefl _)
      · exact q
/-! ### rows as keys -/
theorem eqL_iff : ∀ {a b : List Nat}, eqL a b = true ↔ a = b
  | [], [] => ⟨fun _ => rfl, fun _ => rfl⟩
  | [], _ :: _ => ⟨(fun h => nomatch h), (fun h => nomatch h)⟩
  | _ :: _, [] => ⟨(fun h => nomatch h), (fun h => nomatch h)⟩
  | x :: xs, y :: ys => by
    show (Nat.beq x y && eqL xs ys) = true ↔ _
    rw [Bool.and_eq_true, eqL_iff (a := xs) (b := ys), List.cons.injEq]
    exact ⟨fun h => ⟨Nat.eq_of_beq_eq_true h.1, h.2⟩, fun h => ⟨by rw [h.1]; exact Nat.beq_refl _, h.2⟩⟩
theorem eqL_dec (a b : List Nat) : eqL a b = decide (a = b) := by
  cases h : eqL a b with
  | true => exact (decide_eq_true (eqL_iff.mp h)).symm
  | false => exact (decide_eq_false fun e => by rw [eqL_iff.mpr e] at h; cases h).symm
theorem rk_inj : ∀ {a b : List Nat}, rk a = rk b → a = b
  | [], [], _ => rfl
  | [], _ :: _, h => nomatch h
  | _ :: _, [], h => nomatch h
  | x :: xs, y :: ys, h => by
    have h' : (Sum.inl (x : Int) : L2.Key) :: rk xs = Sum.inl (y : Int) :: rk ys := h
    injection h' with h1 h2
    injection h1 with h1
    rw [rk_inj h2, Int.ofNat.inj h1]
theorem rk_dec (a b : List Nat) : decide (rk a = rk b) = eqL a b := by
  rw [eqL_dec]
  exact decide_eq_decide.mpr ⟨rk_inj, fun h => by rw [h]⟩
/-- a dict with rows as keys -/
abbrev rKV {β : Type} (f : β → V) (p : List Nat × β) : List L2.Key × V := (rk p.1, f p.2)
theorem look_val {β : Type} (f : β → V) (r : List Nat) : ∀ d : List (List Nat × β), valV (d.map (rKV f)) (rk r) = (look d r).map f
  | [] => rfl
  | p :: d => by
    have ih := look_val f r d
    unfold look valV at *
    rw [List.map_cons, List.find?_cons, List.find?_cons]
    have e : decide ((rKV f p).1 = rk r) = eqL p.1 r := rk_dec p.1 r
    rw [e]
    cases eqL p.1 r with
    | true => rfl
    | false => exact ih
theorem put_val {β : Type} (f : β → V) (r : List Nat) (x : β) (d : List (List Nat × β)) :
    putK (d.map (rKV f)) (rk r) (f x) = (if d.any (fun p => eqL p.1 r) then d.map (fun p => if eqL p.1 r then (p.1, x) else p) else d ++ [(r, x)]).map (rKV f) := by
  unfold putK
  have e : ((d.map (rKV f)).any fun kv => decide (kv.1 = rk r)) = d.any fun p => eqL p.1 r := by
    rw [List.any_map]
    congr 1
    funext p
    exact rk_dec p.1 r
  rw [e]
  split
  · rw [List.map_map, List.map_map]
    congr 1
    funext p
    show (if rk p.1 = rk r then (rk p.1, f x) else (rk p.1, f p.2)) = rKV f (if eqL p.1 r = true then (p.1, x) else p)
    by_cases h : p.1 = r
    · rw [if_pos (by rw [h]), if_pos (eqL_iff.mpr h)]
    · rw [if_neg (fun z => h (rk_inj z)), if_neg (fun z => h (eqL_iff.mp z))]
  · rw [List.map_append]
    rfl
theorem put_true (r : List Nat) (fs : List (List Nat)) : putK (fs.map rT) (rk r) (V.bl true) = (addU fs r).map rT := by
  have h := put_val (β := Bool) V.bl r true (fs.map fun q => (q, true))
  rw [List.map_map] at h
  have e1 : fs.map (rKV V.bl ∘ fun q => (q, true)) = fs.map rT := rfl
  rw [e1] at h
  rw [h]
  unfold addU
  rw [List.any_map]
  have e2 : (fs.any ((fun p : List Nat × Bool => eqL p.1 r) ∘ fun q => (q, true))) = fs.any (eqL r) := by
    congr 1
    funext q
    show eqL q r = eqL r q
    rw [eqL_dec, eqL_dec]
    exact decide_eq_decide.mpr eq_comm
  rw [e2]
  split
  · rw [List.map_map, List.map_map]
    congr 1
    funext q
    show rKV V.bl (if eqL q r = true then (q, true) else (q, true)) = rT q
    split <;> rfl
  · rw [List.map_append, List.map_append, List.map_map]
    rfl
end Rg

namespace Rg
open PySem PySem.Spec PyProof.Rows L2
theorem ROk.sm {n : Nat} {r : List Nat} (h : ROk n r) (hn : n ≤ 100) : Sm n r := ⟨h.1, fun x hx => by
  obtain ⟨i, hi⟩ := List.mem_iff_getElem?.mp hx
  have := h.2 i x hi
  omega⟩
/-- the rows of a list, as the set takes them -/
theorem row_ks {H : Hp} : ∀ {rows : List (List Nat)} {xs : List V}, Paired (RowAt H) rows xs → ∃ ks : List (Addr × List Int), xs = ks.map (fun p => V.ref p.1) ∧ ks.map (·.2) = rows.map rI ∧ ∀ p ∈ ks, H p.1 = some (.tup (p.2.map V.int))
  | [], _, .nil => ⟨[], rfl, rfl, fun _ h => nomatch h⟩
  | r :: rows, _, .cons ⟨a, e, ha⟩ t => by
    obtain ⟨ks, h1, h2, h3⟩ := row_ks t
    subst e
    refine ⟨(a, rI r) :: ks, by rw [List.map_cons, ← h1], by rw [List.map_cons, List.map_cons, h2], fun p hp => ?_⟩
    rcases List.mem_cons.mp hp with e | hp
    · subst e
      show H a = some (.tup ((rI r).map V.int))
      rw [rI_vals]
      exact ha
    · exact h3 p hp
theorem rI_back (r : List Nat) : (rI r).map Int.toNat = r := by
  show (r.map _).map _ = r
  rw [List.map_map]
  exact (List.map_congr_left fun x _ => rfl).trans (List.map_id r)
/-- what sorted gives of the set of the rows, is the next edge -/
theorem sorted_rows {n : Nat} {rows : List (List Nat)} {ks L L' : List (Addr × List Int)} (hr : ∀ r ∈ rows, Sm n r) (e : ks.map (·.2) = rows.map rI) (h1 : ∀ p ∈ L, p ∈ ks) (h2 : ∀ p ∈ ks, p.2 ∈ L.map (·.2)) (pm : L'.Perm L) (nd : (L'.map (·.2)).Nodup)
    (pw : L'.Pairwise fun q r => TS.code 200 q.2 ≤ TS.code 200 r.2) : (L'.map fun q => q.2.map Int.toNat) = rows.foldl (fun l x => insU x l) [] ∧ ∀ q ∈ L', rI (q.2.map Int.toNat) = q.2 := by
  have from_ : ∀ q ∈ L', ∃ r ∈ rows, q.2 = rI r := fun q hq => by
    have hk : q.2 ∈ ks.map (·.2) := List.mem_map.mpr ⟨q, h1 q (pm.mem_iff.mp hq), rfl⟩
    rw [e] at hk
    obtain ⟨r, hr, e⟩ := List.mem_map.mp hk
    exact ⟨r, hr, e.symm⟩
  obtain ⟨i1, i2⟩ := insAll (n := n) rows [] hr (fun _ h => nomatch h) .nil
  refine ⟨pw_one ?_ i1 fun y => ?_, fun q hq => ?_⟩
  · rw [List.pairwise_map]
    rw [List.nodup_iff_pairwise_ne, List.pairwise_map] at nd
    have both := List.Pairwise.and pw nd
    refine List.Pairwise.imp_of_mem (fun {q r} hq hr2 hh => ?_) both
    obtain ⟨q0, hq0, eq⟩ := from_ q hq
    obtain ⟨r0, hr0, er⟩ := from_ r hr2
    obtain ⟨c1, c2⟩ := hh
    rw [eq, er, rI_back, rI_back]
    rw [eq, er, code_cd, code_cd] at c1
    have hne : cd q0 ≠ cd r0 := fun z => c2 (by rw [eq, er, (hr q0 hq0).inj (hr r0 hr0) z])
    omega
  · rw [i2]
    constructor
    · intro hy
      obtain ⟨q, hq, e⟩ := List.mem_map.mp hy
      obtain ⟨r, hr, eq⟩ := from_ q hq
      rw [eq, rI_back] at e
      exact .inr (e ▸ hr)
    · intro hy
      rcases hy with hy | hy
      · exact nomatch hy
      · have hk : rI y ∈ ks.map (·.2) := by rw [e]; exact List.mem_map.mpr ⟨y, hy, rfl⟩
        obtain ⟨p, hp, ep⟩ := List.mem_map.mp hk
        obtain ⟨q, hq, eq⟩ := List.mem_map.mp (h2 p hp)
        refine List.mem_map.mpr ⟨q, pm.mem_iff.mpr hq, ?_⟩
        rw [eq, ep, rI_back]
  · obtain ⟨r, _, e⟩ := from_ q hq
    rw [e, rI_back]
theorem afterRows_ok {n : Nat} {g : List Nat} {edge : List (List Nat)} (h : ∀ r ∈ edge, ROk n r) : ∀ r ∈ afterRows g edge, ROk n r := fun r hr => by
  obtain ⟨q, hq, hr⟩ := List.mem_flatMap.mp hr
  obtain ⟨j, hj, e⟩ := List.mem_map.mp hr
  rw [← e]
  exact (h q hq).step (waysOn_mem hj)
theorem afterRows_snoc (g : List Nat) (a : List (List Nat)) (r : List Nat) : afterRows g (a ++ [r]) = afterRows g a ++ (waysOn r g).map (stepped r) := by
  unfold afterRows
  rw [List.flatMap_append]
  show _ ++ ((waysOn r g).map (stepped r) ++ []) = _
  rw [List.append_nil]
theorem afterRows_take (g : List Nat) (edge : List (List Nat)) (i : Nat) : (afterRows g (edge.take i)).length ≤ (afterRows g edge).length := by
  have e : afterRows g edge = afterRows g (edge.take i) ++ afterRows g (edge.drop i) := by
    unfold afterRows
    rw [← List.flatMap_append, List.take_append_drop]
  rw [e, List.length_append]
  omega
theorem addU_len (fs : List (List Nat)) (r : List Nat) : (addU fs r).length ≤ fs.length + 1 := by
  unfold addU
  split
  · omega
  · rw [List.length_append]; exact Nat.le_refl _
theorem insU_len (x : List Nat) : ∀ l : List (List Nat), (insU x l).length ≤ l.length + 1
  | [] => Nat.le_refl _
  | y :: ys => by
    have := insU_len x ys
    unfold insU
    split
    · exact Nat.le_succ _
    · split
      · exact Nat.le_refl _
      · exact Nat.succ_le_succ this
theorem insAll_len : ∀ (l acc : List (List Nat)), (l.foldl (fun l x => insU x l) acc).length ≤ acc.length + l.length
  | [], acc => Nat.le_refl _
  | x :: l, acc => by
    have h1 := insAll_len l (insU x acc)
    have h2 := insU_len x acc
    show (l.foldl _ (insU x acc)).length ≤ acc.length + (l.length + 1)
    omega
theorem piL {X : Cx} {K : PySem.W.Frag} {tg l : Expr} {tl : TE} (hl : PE X l tl) (hK : X.K = K := by rfl) : PI X tg l (iList K tl) := by subst hK; exact pi_list hl
theorem cSetT {X : Cx} {K : PySem.W.Frag} {P : Program} {w : World} (hu : X.A.units + 64 < cLine) (hc : X.calm = true := by rfl) (hK : X.K = K := by rfl) (hP : X.prog = P := by rfl) (hw : X.w = w := by rfl) : CallR X (.type "set") (rSetOfT K P w) := by subst hK hP hw; exact cr_setOfT hc hu
theorem cSortedT {X : Cx} {K : PySem.W.Frag} {P : Program} {w : World} (hc : X.calm = true := by rfl) (hK : X.K = K := by rfl) (hP : X.prog = P := by rfl) (hw : X.w = w := by rfl) : CallR X (.builtin "sorted") (rSortedT K P w) := by subst hK hP hw; exact cr_sortedT hc
section
variable {P : Program} {w : World} {K : PySem.W.Frag} {mg : Str → Option Value} {base : Heap}
/-! ### rows_on -/
theorem scRows : FnScope ["first", "goal", "found", "edge", "row", "after", "join"] ["first", "goal"] (defScope (topS 24)) := ⟨rfl, rfl, rfl, by decide +kernel, rfl, by decide +kernel, by decide +kernel⟩
def spRows : Sp := fun vs H Q _ => ∃ (n : Nat) (f g : List Nat) (u v : V), vs = [u, v] ∧ RowAt H f u ∧ RowAt H g v ∧ ROk n f ∧ g.length = n ∧ n ≤ 100 ∧ bfsOk 12 g [f] = true ∧ ∀ p xs H', Same H H' → H' p = some (.lst xs) → Paired (RowAt H') (rowsOn f g) xs → Q (.ref p) H'
theorem has_rows (B : Bi mg) (A : At K mg "rows_on" (topS 24)) (hW : Has P w K mg base "ways_on" 2 spWays) (hS : Has P w K mg base "stepped" 1 spStep) : Has P w K mg base "rows_on" 3 spRows := by
  refine has_of A scRows (fun _ _ _ _ _ _ us hl => match us, hl with | [_, _], _ => rfl) (fun vs H Q E h => ?_) (fun fa cdv Ar outer s H vs Q E hr h => ?_)
  · obtain ⟨n, f, g, u, v, rfl, _⟩ := h
    rfl
  · obtain ⟨n, f, g, u, v, rfl, hu, hv, hok, hl, hn, hb, q⟩ := h
    have hun := hr.units
    refine ⟨_, pss_cons (ps_par (i := 2) (j := 3) rfl scRows.nd rfl rfl (by decide) rfl rfl (pa_cons (pe_disp1T (by have := hr.units; exact Nat.lt_of_le_of_lt (Nat.add_le_add_left (by decide) _) this) (pv 0) pe_bl) (pa_cons (pe_lst (pa_cons (pv 0) pa_nil)) pa_nil)) (by rfl))
      (pss_cons (ps_while PassesOwn.never (pt_cmpR op_gt (pe_callB (cLen (K := K)) (by rfl) B.len PySem.boot_len (pa_cons (pv 3) pa_nil)) pe_int (nomark _))
        (pss_cons (ps_setLc2 (i := 5) (own := [("row", 4), ("join", 6)]) (vs1 := [6]) (g := gName 4) (g1 := gName 6) (tt := tYes) (tt1 := tYes) rfl scRows.nd rfl rfl rfl (pi_list (pv 3))
            (blkOk_by (own := [("row", 4), ("join", 6)]) (N := ["first", "goal", "found", "edge", "row", "after", "join"]) (sc := defScope (topS 24)) (by decide +kernel)) (by decide)
            (fun _ _ _ _ _ => pg_name (i := 4) scRows.nd rfl (Or.inl rfl)) (fun _ _ _ _ _ => pts_nil)
            (fun _ _ _ _ _ => piL (K := K) (pe_c hW hr (pa_cons (pv 4) (pa_cons (pv 1) pa_nil))))
            (fun _ _ _ _ _ => pg_name (i := 6) scRows.nd rfl (Or.inl rfl)) (fun _ _ _ _ _ => pts_nil)
            (fun _ _ _ _ _ => pe_c hS hr (pa_cons (pv 4) (pa_cons (pv 6) pa_nil))))
        (pss_cons (ps_set (i := 3) scRows.nd rfl (.inl rfl) (pe_callB (cSortedT (K := K) (P := P) (w := w)) (by rfl) B.sorted (by decide +kernel) (pa_cons (pe_callTy (cSetT (K := K) (P := P) (w := w) hun) (by rfl) B.set (by decide +kernel) (pa_cons (pv 5) pa_nil)) pa_nil)))
        (pss_one (ps_for PassesOwn.never rfl (pi_list (pv 3)) (pg_name (i := 4) scRows.nd rfl (.inl rfl)) (pss_one (ps_dput (by have := hr.units; exact Nat.lt_of_le_of_lt (Nat.add_le_add_left (by decide) _) this) (pv 2) (pv 4) pe_bl (by rfl))))))))
      (pss_one (ps_ret (pe_sortSum hun rfl (by rfl) B.sorted (by rfl) B.sum (pa_cons (pv 2) pa_nil))))), ?_⟩
    obtain ⟨au, rfl, hu⟩ := hu
    -- found, edge
    refine fun pf nf => ⟨_, rfl, upd_same, au, rk f, rfl, ?_, ?_⟩
    · rw [upd_ne (ne_of_none hu nf), rk_vals]
      exact hu
    have s0 : Same H (upd (upd H pf (.dT [])) pf (.dT [(rk f, V.bl true)])) := Same.mut (same_new nf) nf
    have f0 : (upd (upd H pf (.dT [])) pf (.dT [(rk f, V.bl true)])) pf = some (.dT ([f].map rT)) := upd_same
    generalize upd (upd H pf (.dT [])) pf (.dT [(rk f, V.bl true)]) = H0 at s0 f0
    refine ⟨_, rfl, (by show 1 ≤ sizeLine; decide), fun p0 n0 => ⟨_, _, rfl, ?_⟩⟩
    have s1 : Same H0 (upd H0 p0 (.lst [V.ref au])) := same_new n0
    refine ⟨fun m σ H' => ∃ (edge fs : List (List Nat)) (pe : Addr) (xs : List V) (y4 y5 y6 : Option V), σ = [some (.ref au), some v, some (.ref pf), some (.ref pe), y4, y5, y6] ∧ Same H H' ∧ H' pf = some (.dT (fs.map rT)) ∧ H' pe = some (.lst xs) ∧
      Paired (RowAt H') edge xs ∧ (∀ r ∈ edge, ROk n r) ∧ bfsOk m g edge = true ∧ bfs m g edge fs = bfs 12 g [f] [f] ∧ fs.length + 64 * m ≤ 800 ∧ edge.length ≤ 64,
      ⟨12, [f], [f], p0, [V.ref au], none, none, none, rfl, s0.trans s1, s1 _ _ f0, upd_same, .cons ⟨au, rfl, s1 _ _ (s0 _ _ hu)⟩ .nil, fun r hr => by rw [List.mem_singleton.mp hr]; exact hok, hb, rfl, by show 1 + 64 * 12 ≤ 800; decide, by show 1 ≤ 64; decide⟩, fun m σ H1 hW => ?_⟩
    obtain ⟨edge, fs, pe, xs, y4, y5, y6, rfl, sH, hf, he, dE, okE, hbo, hbf, hfl, hel⟩ := hW
    have hxl : xs.length = edge.length := dE.length.symm
    refine ⟨_, rfl, pe, xs, rfl, .inl (SqL.of he), (xs.length : Int), 0, rfl, rfl, _, rfl, ?_⟩
    cases edge with
    | nil =>
      rw [hxl, decide_eq_false (by show ¬ ((0 : Nat) : Int) > 0; omega)]
      refine iteF ?_
      refine ⟨_, rfl, pf, fs, rfl, hf, by omega, fun H' l zs s2 hl2 d2 => ?_⟩
      refine q l zs H' (sH.trans s2) hl2 ?_
      have e : fs = bfs 12 g [f] [f] := by
        rw [← hbf]
        cases m <;> rfl
      unfold rowsOn
      rw [← e]
      exact d2
    | cons r0 edge0 =>
      rw [hxl, decide_eq_true (by show (((r0 :: edge0).length : Nat) : Int) > 0; rw [List.length_cons]; omega)]
      refine iteT ?_
      generalize hE : r0 :: edge0 = edge at *
      cases m with
      | zero => rw [← hE] at hbo; cases hbo
      | succ m =>
      have hbo2 : Nat.blt (afterRows g edge).length 64 = true ∧ bfsOk m g (nextEdge g edge) = true := by
        rw [← hE] at hbo ⊢
        have : (false || (Nat.blt (afterRows g (r0 :: edge0)).length 64 && bfsOk m g (nextEdge g (r0 :: edge0)))) = true := hbo
        rw [Bool.false_or, Bool.and_eq_true] at this
        exact this
      have h64 : (afterRows g edge).length < 64 := by simpa [Nat.blt_eq] using hbo2.1
      refine ⟨_, fun σ' H' hN' => ⟨m, Nat.lt_succ_self _, hN'⟩, ?_⟩
      -- the next rows
      refine ⟨_, rfl, pe, rfl, ⟨_, SqL.of he⟩, fun D hD => ?_⟩
      refine walk_any (walk_list (K := K) (a := pe) (xs := xs)) _ (fun i H' => Same H1 H' ∧ i ≤ edge.length ∧ ∃ zs, H' D = some (.lst zs) ∧ Paired (RowAt H') (afterRows g (edge.take i)) zs)
        ⟨same_new hD, Nat.zero_le _, [], upd_same, .nil⟩ (fun i H' _ p => SqL.of (p.1 _ _ he)) (fun i x H2 H3 hi p yv => ?_) (fun H2 p => ?_)
      · obtain ⟨rfl, hx⟩ := yv
        obtain ⟨p1, _, zs, p3, p4⟩ := p
        obtain ⟨r, hr1, hrow⟩ := pairedGet dE hx
        have hmem : r ∈ edge := List.mem_of_getElem? hr1
        have hokr := okE r hmem
        have sH3 := sH.trans p1
        refine ⟨rfl, ?_⟩
        show (_ : Prop)
        refine ⟨_, rfl, _, rfl, n, r, g, x, v, rfl, hrow.mono p1, hv.mono sH3, hokr, hl, hn, fun pw H4 nw s4 h4 => ⟨pw, rfl, ⟨_, SqL.of h4⟩, ?_⟩⟩
        have hpD : D ≠ pw := ne_of_none p3 nw
        have hlen : (afterRows g (edge.take i)).length + (waysOn r g).length ≤ (afterRows g edge).length := by
          have h := afterRows_take g edge (i + 1)
          rw [List.take_add_one, hr1] at h
          rw [show (some r).toList = [r] from rfl, afterRows_snoc, List.length_append, List.length_map] at h
          exact h
        refine walk_any (walk_list (K := K) (a := pw) (xs := rowV (waysOn r g))) _ (fun j H' => Same H1 H' ∧ H' pw = some (.lst (rowV (waysOn r g))) ∧ j ≤ (waysOn r g).length ∧ ∃ zs, H' D = some (.lst zs) ∧ Paired (RowAt H') (afterRows g (edge.take i) ++ ((waysOn r g).take j).map (stepped r)) zs)
          ⟨p1.trans s4, h4, Nat.zero_le _, zs, s4 _ _ p3, ?_⟩ (fun j H' _ p => SqL.of p.2.1) (fun j z H5 H6 hj p yv => ?_) (fun H5 p => ?_)
        · rw [List.take_zero, List.map_nil, List.append_nil]
          exact pairedMap (fun _ _ h => h.mono s4) p4
        · obtain ⟨rfl, hz⟩ := yv
          obtain ⟨q1, q2, _, ws, q3, q4⟩ := p
          obtain ⟨jn, hjn, rfl⟩ := row_at hz
          have hjm : jn ∈ openIn r := waysOn_mem (List.mem_of_getElem? hjn)
          obtain ⟨i0, rfl, _, _⟩ := openIn_mem hjm
          refine ⟨rfl, ?_⟩
          refine ⟨_, rfl, _, rfl, n, i0, r, x, rfl, hrow.mono q1, hokr, hn, hjm, fun p7 H7 s7 h7 => ⟨ws, s7 _ _ q3, ?_, Same.mut (q1.trans s7) hD, ?_, ?_, ws ++ [V.ref p7], upd_same, ?_⟩⟩
          · have h1 := q4.length
            rw [List.length_append, List.length_map, List.length_take] at h1
            refine small1000 ?_
            rw [row_len] at hj
            omega
          · rw [upd_ne (Ne.symm hpD)]
            exact s7 _ _ q2
          · rw [row_len] at hj; exact hj
          · have hT : TupEx H6 (upd H7 D (.lst (ws ++ [V.ref p7]))) := TupEx.trans (Same.tup s7) (tupEx_upd (s7 _ _ q3) (fun xs z => nomatch z))
            rw [List.take_add_one, hjn]
            show Paired _ (_ ++ ((_ ++ [i0 + 1]).map _)) _
            rw [List.map_append, ← List.append_assoc]
            exact pairedApp (pairedMap (fun _ _ h => h.tup hT) q4) (.cons ⟨p7, rfl, tupEx_upd (s7 _ _ q3) (fun xs z => nomatch z) _ _ h7⟩ .nil)
        · obtain ⟨q1, q2, _, ws, q3, q4⟩ := p
          refine ⟨q1, by omega, ws, q3, ?_⟩
          rw [row_len, List.take_length] at q4
          rw [List.take_add_one, hr1]
          show Paired _ (afterRows g (edge.take i ++ [r])) _
          rw [afterRows_snoc]
          exact q4
      · obtain ⟨p1, _, zs, p3, p4⟩ := p
        rw [hxl, List.take_length] at p4
        have okA := afterRows_ok (g := g) okE
        -- the set, in order
        obtain ⟨ks, k1, k2, k3⟩ := row_ks p4
        have hkl : ks.length < 64 := by
          have := congrArg List.length k2
          rw [List.length_map, List.length_map] at this
          omega
        refine ⟨_, rfl, D, ks, rfl, SqL.of (by rw [p3, k1]), fun z hz => SqT.of (k3 z hz), hkl, fun a L na hL1 hL2 => ?_⟩
        have s3 := same_new (o := SetTO P w a L) na
        refine ⟨a, L, max n 1, 200, rfl, upd_same, fun z hz => SqT.of (s3 _ _ (k3 z (hL1 z hz))), Nat.le_max_right _ _, fun z hz => ?_, fun L' pl pm nd h64' pw npl => ?_⟩
        · have hz2 : z.2 ∈ ks.map (·.2) := List.mem_map.mpr ⟨z, hL1 z hz, rfl⟩
          rw [k2] at hz2
          obtain ⟨r, hr, er⟩ := List.mem_map.mp hz2
          have sm := (okA r hr).sm hn
          have hn1 : 1 ≤ n := by
            obtain ⟨q0, hq0, hr2⟩ := List.mem_flatMap.mp hr
            obtain ⟨j, hj, _⟩ := List.mem_map.mp hr2
            obtain ⟨i0, _, hi0, _⟩ := openIn_mem (waysOn_mem hj)
            have := (okE q0 hq0).1
            omega
          rw [← er]
          refine ⟨by rw [List.length_map, sm.1, Nat.max_eq_left hn1], fun y hy => ?_⟩
          obtain ⟨x, hx, ex⟩ := List.mem_map.mp hy
          have := sm.2 x hx
          omega
        obtain ⟨e1, e2⟩ := sorted_rows (n := n) (fun r hr => (okA r hr).sm hn) k2 hL1 hL2 pm nd pw
        have s4 := same_new (o := .lst (L'.map fun z => V.ref z.1)) npl
        have h8 : (upd (upd H2 a (SetTO P w a L)) pl (.lst (L'.map fun z => V.ref z.1))) pl = some (.lst (L'.map fun z => V.ref z.1)) := upd_same
        have s18 : Same H1 (upd (upd H2 a (SetTO P w a L)) pl (.lst (L'.map fun z => V.ref z.1))) := p1.trans (s3.trans s4)
        have d8 : Paired (RowAt (upd (upd H2 a (SetTO P w a L)) pl (.lst (L'.map fun z => V.ref z.1)))) (nextEdge g edge) (L'.map fun z => V.ref z.1) := by
          unfold nextEdge
          rw [← e1]
          refine paired_self _ _ L' fun z hz => ⟨z.1, rfl, ?_⟩
          have := k3 z (hL1 z (pm.mem_iff.mp hz))
          rw [← e2 z hz, rI_vals] at this
          exact s4 _ _ (s3 _ _ this)
        generalize (upd (upd H2 a (SetTO P w a L)) pl (.lst (L'.map fun z => V.ref z.1))) = H8 at h8 s18 d8
        generalize (L'.map fun z => V.ref z.1) = zs8 at h8 d8
        have hzl : zs8.length = (nextEdge g edge).length := d8.length.symm
        have hnl : (nextEdge g edge).length < 64 := by
          have := insAll_len (afterRows g edge) []
          have e : (nextEdge g edge).length ≤ ([] : List (List Nat)).length + (afterRows g edge).length := this
          rw [List.length_nil] at e
          omega
        have okN : ∀ r ∈ nextEdge g edge, ROk n r := fun r hr => by
          rcases ((insAll (n := n) (afterRows g edge) [] (fun z hz => (okA z hz).sm hn) (fun _ h => nomatch h) .nil).2 r).mp hr with z | z
          · exact nomatch z
          · exact okA r z
        refine ⟨_, rfl, pl, rfl, ⟨_, SqL.of h8⟩, ?_⟩
        refine for_it (walk_list (K := K) (a := pl) (xs := zs8)) (fun i σ H' => ∃ y4, σ = [some (.ref au), some v, some (.ref pf), some (.ref pl), y4, some (.ref D), y6] ∧ Same H H' ∧ TupEx H8 H' ∧ H' pl = some (.lst zs8) ∧
            H' pf = some (.dT ((((nextEdge g edge).take i).foldl addU fs).map rT)) ∧ (((nextEdge g edge).take i).foldl addU fs).length ≤ fs.length + i)
          ⟨y4, rfl, sH.trans s18, fun _ _ h => h, h8, s18 _ _ hf, Nat.le_refl _⟩ (fun i σ H' _ p => by obtain ⟨_, _, _, _, q4, _⟩ := p; exact SqL.of q4) (fun i x σ H5 H6 hi p yv => ?_) (fun σ H5 p => ?_)
        · obtain ⟨rfl, hx⟩ := yv
          obtain ⟨y4', rfl, q1, q2, q3, q4, q5⟩ := p
          obtain ⟨r, hr1, ar, rfl, har⟩ := pairedGet d8 hx
          have hkey : H6 ar = some (.tup ((rk r).map kV)) := by rw [rk_vals]; exact q2 _ _ har
          have ht : ((nextEdge g edge).take (i + 1)).foldl addU fs = addU (((nextEdge g edge).take i).foldl addU fs) r := by
            rw [List.take_add_one, hr1]
            show ((_ ++ [r]).foldl addU fs) = _
            rw [List.foldl_append]
            rfl
          refine ⟨_, rfl, _, rfl, pf, _, rfl, DPut.t q4 hkey ?_, ?_⟩
          · rw [List.length_map]
            refine small1000 ?_
            omega
          · rw [put_true, ← ht]
            have hT : TupEx H6 (upd H6 pf (.dT ((((nextEdge g edge).take (i + 1)).foldl addU fs).map rT))) := tupEx_upd q4 (fun xs z => nomatch z)
            refine ⟨_, rfl, Same.mut q1 nf, TupEx.trans q2 hT, ?_, upd_same, ?_⟩
            · rw [upd_ne (ne_of q3 q4 (fun z => nomatch z))]
              exact q3
            · rw [ht]
              have := addU_len (((nextEdge g edge).take i).foldl addU fs) r
              omega
        · obtain ⟨y4', rfl, q1, q2, q3, q4, q5⟩ := p
          rw [hzl, List.take_length] at q4 q5
          refine ⟨nextEdge g edge, (nextEdge g edge).foldl addU fs, pl, zs8, y4', some (.ref D), y6, rfl, q1, q4, q3, pairedMap (fun _ _ h => h.tup q2) d8, okN, hbo2.2, ?_, by omega, by omega⟩
          rw [← hbf, ← hE]
          rfl
end
end Rg

/-! rows and trees as data -/
namespace Rg
open PySem PySem.Spec PyProof.Rows L2
def rowDs : List Nat → List PyData
  | [] => []
  | n :: r => .int (n : Int) :: rowDs r
def rowD (r : List Nat) : PyData := .tuple (rowDs r)
def T.d : T → PyData
  | .leaf n => .int (n : Int)
  | .node l r => .tuple [l.d, r.d]
theorem int_eqv (a b : Nat) : PyData.eqv (.int (a : Int)) (.int (b : Int)) = Nat.beq a b := by
  show ((a : Int) == (b : Int)) = Nat.beq a b
  cases h : Nat.beq a b with
  | true => rw [Nat.eq_of_beq_eq_true h]; exact beq_self_eq_true _
  | false => exact beq_eq_false_iff_ne.mpr fun e => by rw [Int.ofNat.inj e, Nat.beq_refl] at h; cases h
theorem rowDs_eqv : ∀ a b : List Nat, PyData.eqvAll (rowDs a) (rowDs b) = eqL a b
  | [], [] => rfl
  | [], _ :: _ => rfl
  | _ :: _, [] => rfl
  | x :: xs, y :: ys => by
    show (PyData.eqv (.int (x : Int)) (.int (y : Int)) && PyData.eqvAll (rowDs xs) (rowDs ys)) = (Nat.beq x y && eqL xs ys)
    rw [int_eqv, rowDs_eqv]
theorem rowD_eqv (a b : List Nat) : PyData.eqv (rowD a) (rowD b) = eqL a b := rowDs_eqv a b
theorem rowDs_lay : ∀ a : List Nat, PyData.canLayAll0 (rowDs a) = true
  | [] => rfl
  | x :: xs => by
    simp only [rowDs, PyData.canLayAll0, rowDs_lay xs, PyData.canLay0, Bool.and_self]
theorem rowDs_depth : ∀ a : List Nat, PyData.depthAll (rowDs a) = 0
  | [] => by simp [rowDs, PyData.depthAll]
  | x :: xs => by simp [rowDs, PyData.depthAll, rowDs_depth xs, PyData.depth]
theorem rowD_shaped (a : List Nat) : SeqAt.shaped (rowD a) = true := by
  unfold SeqAt.shaped rowD
  rw [Bool.and_eq_true]
  exact ⟨by simp only [PyData.canLay0, rowDs_lay], decide_eq_true (by simp [PyData.depth, rowDs_depth])⟩
theorem rowDp {K : PySem.W.Frag} {H : Hp} : ∀ r : List Nat, DpAll K H (rowV r) (rowDs r)
  | [] => .nil
  | x :: xs => .cons (.int _) (rowDp xs)
theorem RowAt.dp {K : PySem.W.Frag} {H : Hp} {r : List Nat} {v : V} (h : RowAt H r v) : Dp K H v (rowD r) := by
  obtain ⟨a, rfl, h⟩ := h
  exact .tup (SqT.of h) (rowDp r)
theorem T.d_lay : ∀ t : T, t.d.canLay0 = true
  | .leaf _ => rfl
  | .node l r => by
    simp only [T.d, PyData.canLay0, PyData.canLayAll0, T.d_lay l, T.d_lay r, Bool.and_self]
theorem T.d_depth : ∀ t : T, t.d.depth ≤ t.ht + 1
  | .leaf _ => by simp [T.d, PyData.depth]
  | .node l r => by
    have h1 := T.d_depth l
    have h2 := T.d_depth r
    simp only [T.d, T.ht, PyData.depth, PyData.depthAll]
    omega
theorem T.d_shaped {t : T} (h : t.ht ≤ 60) : SeqAt.shaped t.d = true := by
  unfold SeqAt.shaped
  rw [Bool.and_eq_true]
  exact ⟨T.d_lay t, decide_eq_true (by have := T.d_depth t; omega)⟩
theorem T.d_eqv : ∀ s t : T, PyData.eqv s.d t.d = decide (s = t)
  | .leaf a, .leaf b => by
    show PyData.eqv (.int (a : Int)) (.int (b : Int)) = _
    rw [int_eqv]
    cases h : Nat.beq a b with
    | true => rw [Nat.eq_of_beq_eq_true h]; exact (decide_eq_true rfl).symm
    | false => exact (decide_eq_false fun e => by injection e with e; rw [e, Nat.beq_refl] at h; cases h).symm
  | .leaf _, .node _ _ => (decide_eq_false fun e => nomatch e).symm
  | .node _ _, .leaf _ => (decide_eq_false fun e => nomatch e).symm
  | .node a b, .node c d => by
    show (PyData.eqv a.d c.d && (PyData.eqv b.d d.d && PyData.eqvAll [] [])) = _
    rw [T.d_eqv a c, T.d_eqv b d]
    show (decide (a = c) && (decide (b = d) && true)) = _
    rw [Bool.and_true]
    rw [show decide (T.node a b = T.node c d) = decide (a = c ∧ b = d) from decide_eq_decide.mpr (by rw [T.node.injEq]), Bool.decide_and]
theorem TAt.dp {K : PySem.W.Frag} {H : Hp} : ∀ {t : T} {v : V}, TAt H t v → Dp K H v t.d
  | .leaf _, _, h => by
    obtain rfl := h
    exact .int _
  | .node l r, _, h => by
    obtain ⟨a, x, y, rfl, h1, h2, h3⟩ := h
    exact .tup (SqT.of h1) (.cons h2.dp (.cons h3.dp .nil))
/-! ### dicts of numbers -/
theorem nb_dec (a b : Nat) : decide ((Sum.inl (a : Int) : L2.Key) = Sum.inl (b : Int)) = Nat.beq a b := by
  cases h : Nat.beq a b with
  | true => rw [Nat.eq_of_beq_eq_true h]; exact decide_eq_true rfl
  | false => exact decide_eq_false fun e => by injection e with e; rw [Int.ofNat.inj e, Nat.beq_refl] at h; cases h
theorem valN (k : Nat) : ∀ d : List (Nat × Nat), (valV (d.map nnKV) (Sum.inl (k : Int))).getD (V.int 0) = vn (lookN d k)
  | [] => rfl
  | p :: d => by
    have ih := valN k d
    unfold lookN valV at *
    rw [List.map_cons, List.find?_cons, List.find?_cons]
    have e : decide ((nnKV p).1 = Sum.inl (k : Int)) = Nat.beq p.1 k := nb_dec p.1 k
    rw [e]
    cases Nat.beq p.1 k with
    | true => rfl
    | false => exact ih
theorem put_nn (d : List (Nat × Nat)) (k m : Nat) : putK (d.map nnKV) (Sum.inl (k : Int)) (vn m) = (putN d k m).map nnKV := by
  unfold putK putN
  have e : ((d.map nnKV).any fun kv => decide (kv.1 = Sum.inl (k : Int))) = d.any fun p => Nat.beq p.1 k := by
    rw [List.any_map]
    congr 1
    funext p
    exact nb_dec p.1 k
  rw [e]
  split
  · rw [List.map_map, List.map_map]
    congr 1
    funext p
    show (if (nnKV p).1 = Sum.inl (k : Int) then ((nnKV p).1, vn m) else nnKV p) = nnKV (if Nat.beq p.1 k = true then (p.1, m) else p)
    have e2 := nb_dec p.1 k
    cases h : Nat.beq p.1 k with
    | true => rw [h] at e2; rw [if_pos (of_decide_eq_true e2), if_pos rfl]
    | false => rw [h] at e2; rw [if_neg (of_decide_eq_false e2), if_neg (by decide)]
  · rw [List.map_append]
    rfl
theorem putN_len (d : List (Nat × Nat)) (k m : Nat) : (putN d k m).length ≤ d.length + 1 := by
  unfold putN
  split
  · rw [List.length_map]; omega
  · rw [List.length_append]; exact Nat.le_refl _
theorem putL_len {β : Type} (d : List (List Nat × β)) (r : List Nat) (x : β) : (putL d r x).length ≤ d.length + 1 := by
  unfold putL
  split
  · rw [List.length_map]; omega
  · rw [List.length_append]; exact Nat.le_refl _
theorem putL_map {β γ : Type} (f : β → γ) (d : List (List Nat × β)) (r : List Nat) (x : β) : (putL d r x).map (fun p => (p.1, f p.2)) = putL (d.map fun p => (p.1, f p.2)) r (f x) := by
  unfold putL
  have e : ((d.map fun p => (p.1, f p.2)).any fun p => eqL p.1 r) = d.any fun p => eqL p.1 r := by rw [List.any_map]; rfl
  rw [e]
  split
  · rw [List.map_map, List.map_map]
    congr 1
    funext p
    show ((if eqL p.1 r = true then (p.1, x) else p).1, f (if eqL p.1 r = true then (p.1, x) else p).2) = if eqL p.1 r = true then (p.1, f x) else (p.1, f p.2)
    split <;> rfl
  · rw [List.map_append]
    rfl
theorem look_map {β γ : Type} (f : β → γ) (r : List Nat) : ∀ d : List (List Nat × β), look (d.map fun p => (p.1, f p.2)) r = (look d r).map f
  | [] => rfl
  | p :: d => by
    have ih := look_map f r d
    unfold look at *
    rw [List.map_cons, List.find?_cons, List.find?_cons]
    cases h : eqL p.1 r with
    | true => rfl
    | false => exact ih
theorem put_rk {β : Type} (f : β → V) (r : List Nat) (x : β) (d : List (List Nat × β)) : putK (d.map (rKV f)) (rk r) (f x) = (putL d r x).map (rKV f) := put_val f r x d
theorem putL_mem {β : Type} {d : List (List Nat × β)} {r : List Nat} {x : β} {p : List Nat × β} (h : p ∈ putL d r x) : p ∈ d ∨ p.2 = x := by
  unfold putL at h
  split at h
  · obtain ⟨q, hq, e⟩ := List.mem_map.mp h
    split at e
    · exact .inr (by rw [← e])
    · exact .inl (e ▸ hq)
  · rcases List.mem_append.mp h with h | h
    · exact .inl h
    · exact .inr (by rw [List.mem_singleton.mp h])
theorem look_mem {β : Type} {d : List (List Nat × β)} {r : List Nat} {x : β} (h : look d r = some x) : ∃ p ∈ d, p.2 = x := by
  unfold look at h
  obtain ⟨p, hp, e⟩ := Option.map_eq_some_iff.mp h
  exact ⟨p, List.mem_of_find?_eq_some hp, e⟩
/-- the rows that d knows -/
def Knows {β : Type} (d : List (List Nat × β)) (r : List Nat) : Prop := ∃ p ∈ d, p.1 = r
theorem Knows.look {β : Type} {d : List (List Nat × β)} {r : List Nat} (h : Knows d r) : ∃ x, look d r = some x := by
  obtain ⟨p, hp, e⟩ := h
  unfold Rg.look
  cases hf : d.find? fun kv => eqL kv.1 r with
  | some q => exact ⟨q.2, rfl⟩
  | none => exact absurd (eqL_iff.mpr e) (List.find?_eq_none.mp hf p hp)
theorem Knows.put {β : Type} {d : List (List Nat × β)} {r q : List Nat} {x : β} (h : Knows d r) : Knows (putL d q x) r := by
  obtain ⟨p, hp, e⟩ := h
  unfold putL
  split
  · refine ⟨if eqL p.1 q then (p.1, x) else p, List.mem_map.mpr ⟨p, hp, rfl⟩, ?_⟩
    split <;> exact e
  · exact ⟨p, List.mem_append_left _ hp, e⟩
theorem Knows.new {β : Type} (d : List (List Nat × β)) (r : List Nat) (x : β) : Knows (putL d r x) r := by
  unfold putL
  split
  · rename_i h
    obtain ⟨p, hp, e⟩ := List.any_eq_true.mp h
    exact ⟨_, List.mem_map.mpr ⟨p, hp, rfl⟩, by rw [if_pos e]; exact eqL_iff.mp e⟩
  · exact ⟨(r, x), List.mem_append_right _ (List.mem_singleton_self _), rfl⟩
end Rg

namespace Rg
open PySem PySem.Spec PyProof.Rows L2
theorem sz20000 {n : Nat} (h : n ≤ 20000) : n < sizeLine := by rw [sizeLine_eq]; omega
section
variable {P : Program} {w : World} {K : PySem.W.Frag} {mg : Str → Option Value} {base : Heap}
/-! ### lengths_on -/
theorem scLens : FnScope ["rows", "goal", "found", "row", "own", "join", "size", "many"] ["rows", "goal"] (defScope (topS 25)) := ⟨rfl, rfl, rfl, by decide +kernel, rfl, by decide +kernel, by decide +kernel⟩
/-- a dict with rows as keys, of dicts of numbers -/
structure LensAt (H : Hp) (pf : Addr) (F : List (List Nat × Addr × List (Nat × Nat))) : Prop where
  top : H pf = some (.dT (F.map (rKV fun q => V.ref q.1)))
  own : ∀ p ∈ F, H p.2.1 = some (.dK (p.2.2.map nnKV)) ∧ p.2.2.length ≤ 60
theorem LensAt.mono {H H' : Hp} {pf : Addr} {F : List (List Nat × Addr × List (Nat × Nat))} (h : LensAt H pf F) (s : Same H H') : LensAt H' pf F := ⟨s _ _ h.top, fun p hp => ⟨s _ _ (h.own p hp).1, (h.own p hp).2⟩⟩
abbrev lv (F : List (List Nat × Addr × List (Nat × Nat))) : List (List Nat × List (Nat × Nat)) := F.map fun p => (p.1, p.2.2)
def spLens : Sp := fun vs H Q _ => ∃ (n : Nat) (rows : List (List Nat)) (g : List Nat) (a : Addr) (xs : List V) (v : V), vs = [.ref a, v] ∧ H a = some (.lst xs) ∧ Paired (RowAt H) rows xs ∧ RowAt H g v ∧ (∀ r ∈ rows, ROk n r) ∧ g.length = n ∧ n ≤ 100 ∧ rows.length ≤ 1000 ∧
  (lensRun g rows.reverse []).isSome = true ∧ ∀ pf F H', Same H H' → LensAt H' pf F → lv F = lensOn rows g → Q (.ref pf) H'
theorem paired_rev {α β : Type} {R : α → β → Prop} : ∀ {a : List α} {b : List β}, Paired R a b → Paired R a.reverse b.reverse
  | _, _, .nil => .nil
  | _, _, .cons h t => by
    rw [List.reverse_cons, List.reverse_cons]
    exact pairedApp (paired_rev t) (.cons h .nil)
theorem bump_len (d : List (Nat × Nat)) (k m : Nat) : (bump d k m).length ≤ d.length + 1 := putN_len _ _ _
theorem bumps_len : ∀ (l own : List (Nat × Nat)), (l.foldl (fun own p => bump own (p.1 + 1) p.2) own).length ≤ own.length + l.length
  | [], own => Nat.le_refl _
  | p :: l, own => by
    have h1 := bumps_len l (bump own (p.1 + 1) p.2)
    have h2 := bump_len own (p.1 + 1) p.2
    show (l.foldl _ (bump own (p.1 + 1) p.2)).length ≤ own.length + (l.length + 1)
    omega
theorem lensRun_cons (g r : List Nat) (rs : List (List Nat)) (found : List (List Nat × List (Nat × Nat))) : lensRun g (r :: rs) found =
    if ((waysOn r g).all (fun j => found.any fun p => eqL p.1 (stepped r j)) && Nat.ble (lensRow g r found).length 60) = true then lensRun g rs (putL found r (lensRow g r found)) else none := rfl
theorem own_new (c : Bool) {σ : L2.St} {H : Hp} {Q : VK} (h : ∀ ao H5, H ao = none → Same H H5 → H5 ao = some (.dK ((if c then [((0 : Nat), (1 : Nat))] else []).map nnKV)) → Q (.ref ao) H5) :
    if c = true then tDisp [(tC (V.int 0), tC (V.int 1))] σ H Q else tDNewK σ H Q := by
  cases c with
  | true =>
    refine iteT fun p hp => ?_
    refine ⟨upd_same, [(Sum.inl 0, V.int 1)], rfl, (by decide), h p _ hp (Same.mut (same_new hp) hp) ?_⟩
    rw [upd_same]
    rfl
  | false =>
    refine iteF fun p hp => h p _ hp (same_new hp) ?_
    rw [upd_same]
    rfl
theorem walk_itemsF {d : Addr} {o : Obj} {kvs : List (L2.Key × V)} : Walk (Iti d o kvs) kvs.length (fun H => H d = some (.frz o (.dK kvs))) (fun i H x H' => ∃ T k v, kvs[i]? = some (k, v) ∧ x = .ref T ∧ H T = none ∧ H' = upd H T (.tup [kV k, v])) :=
  ⟨fun i H hi q => ⟨q, hi⟩, fun H q => ⟨q, Nat.le_refl _⟩, fun i H x H' _ _ y => y⟩
theorem has_lens (A : At K mg "lengths_on" (topS 25)) (hW : Has P w K mg base "ways_on" 2 spWays) (hS : Has P w K mg base "stepped" 1 spStep) : Has P w K mg base "lengths_on" 3 spLens := by
  refine has_of A scLens (fun _ _ _ _ _ _ us hl => match us, hl with | [_, _], _ => rfl) (fun vs H Q E h => ?_) (fun fa cdv Ar outer s H vs Q E hr h => ?_)
  · obtain ⟨n, rows, g, a, xs, v, rfl, _⟩ := h
    rfl
  · obtain ⟨n, rows, g, a, xs, v, rfl, ha, dR, hv, hok, hl, hn, hrl, hrun, q⟩ := h
    have hun := hr.units
    have hun1 : (Ar.deeper (envOfC "lengths_on" (defScope (topS 25)) s.heap.objs.size fa cdv)).units + 1 < cLine := Nat.lt_of_le_of_lt (Nat.add_le_add_left (by decide) _) hun
    refine ⟨_, pss_cons (ps_set (i := 2) scLens.nd rfl (Or.inl rfl) pe_dnewT)
      (pss_cons (ps_for PassesOwn.never rfl (pi_list (pe_revL (pv 0))) (pg_name (i := 3) scLens.nd rfl (.inl rfl))
        (pss_cons (ps_set (i := 4) scLens.nd rfl (Or.inl rfl) (pe_ifExp (pt_cmpR (opEqD (K := K) hun) (pv 3) (pv 1) (nomark _)) (pe_disp (pps_cons pe_int pe_int pps_nil) rfl rfl (by decide) (by decide)) pe_dnewK))
        (pss_cons (ps_for PassesOwn.never rfl (pi_list (pe_c hW hr (pa_cons (pv 3) (pa_cons (pv 1) pa_nil)))) (pg_name (i := 5) scLens.nd rfl (.inl rfl))
          (pss_one (ps_lock (ps_for PassesOwn.never rfl (pi_items (pe_dget hun1 (pv 2) (pe_c hS hr (pa_cons (pv 3) (pa_cons (pv 5) pa_nil))) (fun _ _ => rfl))) (pg_tup (by rfl) (pgs_cons (pg_name (i := 6) scLens.nd rfl (Or.inl rfl)) (pgs_cons (pg_name (i := 7) scLens.nd rfl (Or.inl rfl)) pgs_nil)))
            (pss_one (ps_dput hun1 (pv 4) (pe_op op_add (pv 6) pe_int) (pe_op op_add (pe_dget2 hun1 (pv 4) (pe_op op_add (pv 6) pe_int) pe_int ⟨by rfl, by rfl, by rfl, by rfl⟩) (pv 7)) (by rfl)))))))
        (pss_one (ps_dput hun1 (pv 2) (pv 3) (pv 4) (by rfl))))))
      (pss_one (ps_ret (pv 2)))), ?_⟩
    refine fun pf nf => ?_
    have s0 : Same H (upd H pf (.dT [])) := same_new nf
    refine ⟨_, rfl, a, xs, rfl, SqL.of (s0 _ _ ha), fun pl npl => ⟨pl, rfl, ⟨_, SqL.of upd_same⟩, ?_⟩⟩
    have s1 : Same (upd H pf (.dT [])) (upd (upd H pf (.dT [])) pl (.lst xs.reverse)) := same_new npl
    have hpf : (upd (upd H pf (.dT [])) pl (.lst xs.reverse)) pf = some (.dT []) := s1 _ _ upd_same
    have hpl : (upd (upd H pf (.dT [])) pl (.lst xs.reverse)) pl = some (.lst xs.reverse) := upd_same
    have sH := s0.trans s1
    generalize (upd (upd H pf (.dT [])) pl (.lst xs.reverse)) = H1 at s1 hpf hpl sH
    have dRr := paired_rev dR
    have hokr : ∀ r ∈ rows.reverse, ROk n r := fun r hr => hok r (List.mem_reverse.mp hr)
    have hlr : rows.reverse.length ≤ 1000 := by rw [List.length_reverse]; exact hrl
    have hlx : xs.reverse.length = rows.reverse.length := dRr.length.symm
    have elens : lensOn rows g = (lensRun g rows.reverse []).getD [] := rfl
    generalize rows.reverse = L at dRr hokr hlr hlx hrun elens
    refine for_it (walk_list (K := K) (a := pl) (xs := xs.reverse)) (fun i σ H' => ∃ (F : List (List Nat × Addr × List (Nat × Nat))) (y3 y4 y5 y6 y7 : Option V), σ = [some (.ref a), some v, some (.ref pf), y3, y4, y5, y6, y7] ∧ Same H H' ∧ H' pl = some (.lst xs.reverse) ∧ LensAt H' pf F ∧
        lensRun g (L.drop i) (lv F) = lensRun g L [] ∧ F.length ≤ i)
      ⟨[], none, none, none, none, none, rfl, sH, hpl, ⟨hpf, fun _ h => nomatch h⟩, rfl, Nat.le_refl _⟩ (fun i σ H' _ p => by obtain ⟨_, _, _, _, _, _, _, _, q3, _⟩ := p; exact SqL.of q3) (fun i x σ H2 H3 hi p yv => ?_) (fun σ H2 p => ?_)
    · obtain ⟨rfl, hx⟩ := yv
      obtain ⟨F, y3, y4, y5, y6, y7, rfl, q1, q2, q3, q4, q5⟩ := p
      obtain ⟨r, hr1, hrow⟩ := pairedGet dRr hx
      have hmem : r ∈ L := List.mem_of_getElem? hr1
      have okr := hokr r hmem
      have hrow := hrow.mono q1
      have hg := hv.mono q1
      have hil : i < L.length := by omega
      have edrop : L.drop i = r :: L.drop (i + 1) := by
        rw [List.drop_eq_getElem_cons hil]
        congr 1
        exact Option.some.inj ((List.getElem?_eq_getElem hil).symm.trans hr1)
      rw [edrop] at q4
      rw [lensRun_cons] at q4
      have hcond : ((waysOn r g).all (fun j => (lv F).any fun p => eqL p.1 (stepped r j)) && Nat.ble (lensRow g r (lv F)).length 60) = true := by
        cases hc : ((waysOn r g).all (fun j => (lv F).any fun p => eqL p.1 (stepped r j)) && Nat.ble (lensRow g r (lv F)).length 60) with
        | true => rfl
        | false =>
          rw [hc, if_neg (by decide)] at q4
          have h2 : lensRun g L [] = none := by rw [← q4]
          rw [h2] at hrun
          cases hrun
      rw [if_pos hcond] at q4
      rw [Bool.and_eq_true] at hcond
      have hknow : ∀ j ∈ waysOn r g, Knows F (stepped r j) := fun j hj => by
        have h := List.all_eq_true.mp hcond.1 j hj
        obtain ⟨p, hp, e⟩ := List.any_eq_true.mp h
        obtain ⟨p0, hp0, e0⟩ := List.mem_map.mp hp
        refine ⟨p0, hp0, ?_⟩
        have := eqL_iff.mp e
        rw [← e0] at this
        exact this
      have h60 : (lensRow g r (lv F)).length ≤ 60 := Nat.le_of_ble_eq_true hcond.2
      -- own
      refine ⟨_, rfl, _, rfl, rowD r, rowD g, hrow.dp, hg.dp, rowD_shaped r, rowD_shaped g, _, rfl, ?_⟩
      rw [rowD_eqv]
      refine own_new (eqL r g) fun ao H5 na s5 hao => ?_
      refine ⟨_, rfl, _, rfl, n, r, g, x, v, rfl, hrow.mono s5, hg.mono s5, okr, hl, hn, fun pw H6 nw s6 h6 => ⟨pw, rfl, ⟨_, SqL.of h6⟩, ?_⟩⟩
      have hs0 : (if eqL r g then [((0 : Nat), (1 : Nat))] else []).length ≤ 1 := by split <;> decide
      refine for_it (walk_list (K := K) (a := pw) (xs := rowV (waysOn r g))) (fun j σ H' => ∃ (own : List (Nat × Nat)) (y5 y6 y7 : Option V), σ = [some (.ref a), some v, some (.ref pf), some x, some (.ref ao), y5, y6, y7] ∧ Same H3 H' ∧ H' pw = some (.lst (rowV (waysOn r g))) ∧ H' ao = some (.dK (own.map nnKV)) ∧
          own = ((waysOn r g).take j).foldl (fun own j => ((look (lv F) (stepped r j)).getD []).foldl (fun own p => bump own (p.1 + 1) p.2) own) (if eqL r g then [((0 : Nat), (1 : Nat))] else []) ∧ own.length ≤ 1 + 60 * j)
        ⟨_, y5, y6, y7, rfl, s5.trans s6, h6, s6 _ _ hao, rfl, hs0⟩ (fun j σ H' _ p => by obtain ⟨_, _, _, _, _, _, z3, _⟩ := p; exact SqL.of z3) (fun j z σ H7 H8 hj p yv => ?_) (fun σ H7 p => ?_)
      · obtain ⟨rfl, hz⟩ := yv
        obtain ⟨own, y5', y6', y7', rfl, z1, z2, z3, z4, z5⟩ := p
        obtain ⟨jn, hjn, rfl⟩ := row_at hz
        have hjm : jn ∈ waysOn r g := List.mem_of_getElem? hjn
        have hjo := waysOn_mem hjm
        obtain ⟨i0, rfl, _, _⟩ := openIn_mem hjo
        obtain ⟨⟨ad, items⟩, hlk⟩ := (hknow _ hjm).look
        obtain ⟨p0, hp0, ep0⟩ := look_mem hlk
        have hown := q3.own p0 hp0
        rw [ep0] at hown
        have hval : valV (F.map (rKV fun q => V.ref q.1)) (rk (stepped r (i0 + 1))) = some (V.ref ad) := by rw [look_val, hlk]; rfl
        have hlk2 : look (lv F) (stepped r (i0 + 1)) = some items := by
          have := look_map (fun q : Addr × List (Nat × Nat) => q.2) (stepped r (i0 + 1)) F
          rw [hlk] at this
          exact this
        have h60i : items.length ≤ 60 := hown.2
        have had : H8 ad = some (.dK (items.map nnKV)) := z1 _ _ hown.1
        have nad : ao ≠ ad := fun e => by
          have := hown.1
          rw [← e, na] at this
          cases this
        refine ⟨ad, .dK (items.map nnKV), had, True.intro, fun od => ?_⟩
        have lk : ∀ b u, b ≠ ad → H8 b = some u → (upd H8 ad (.frz od (.dK (items.map nnKV)))) b = some u := fun b u hb e => by rw [upd_ne hb]; exact e
        have nrow : RowAt (upd H8 ad (.frz od (.dK (items.map nnKV)))) r x := by
          obtain ⟨ar, e, har⟩ := hrow.mono z1
          exact ⟨ar, e, lk _ _ (ne_of har had (fun z => nomatch z)) har⟩
        refine ⟨_, rfl, _, rfl, _, rfl, n, i0, r, x, rfl, nrow, okr, hn, hjo, fun p9 H9 s9 h9 => ?_⟩
        have hpf9 : H9 pf = some (.dT (F.map (rKV fun q => V.ref q.1))) := s9 _ _ (lk _ _ (ne_of (z1 _ _ q3.top) had (fun z => nomatch z)) (z1 _ _ q3.top))
        refine ⟨pf, V.ref ad, rfl, by rw [← hval]; exact DGet.t hpf9 (by rw [rk_vals]; exact h9), ad, od, items.map nnKV, rfl, s9 _ _ upd_same, ?_⟩
        refine for_it walk_itemsF (fun k σ H' => ∃ (ow : List (Nat × Nat)) (y6 y7 : Option V), σ = [some (.ref a), some v, some (.ref pf), some x, some (.ref ao), some (vn (i0 + 1)), y6, y7] ∧ (∀ b u, b ≠ ad → H3 b = some u → H' b = some u) ∧ H' ad = some (.frz od (.dK (items.map nnKV))) ∧
            H' pw = some (.lst (rowV (waysOn r g))) ∧ H' ao = some (.dK (ow.map nnKV)) ∧ ow = (items.take k).foldl (fun own p => bump own (p.1 + 1) p.2) own ∧ ow.length ≤ 1 + 60 * j + k)
          ⟨own, y6', y7', rfl, fun b u hb e => s9 _ _ (lk _ _ hb (z1 _ _ e)), s9 _ _ upd_same, s9 _ _ (lk _ _ (ne_of z2 had (fun z => nomatch z)) z2), s9 _ _ (lk _ _ nad z3), rfl, z5⟩ (fun k σ H' _ p => by obtain ⟨_, _, _, _, _, t2, _⟩ := p; exact t2) (fun k z σ Ha Hb hk p yv => ?_) (fun σ Ha p => ?_)
        · obtain ⟨Tp, kk, vv, hkv, rfl, nT, rfl⟩ := yv
          obtain ⟨ow, y6'', y7'', rfl, t1, t2, t3, t4, t5, t6⟩ := p
          rw [List.getElem?_map] at hkv
          obtain ⟨⟨sz, my⟩, hit, ekv⟩ := Option.map_eq_some_iff.mp hkv
          injection ekv with ek ev
          subst ek ev
          have sT := same_new (o := .tup [kV (Sum.inl (sz : Int)), vn my]) nT
          have t4' := sT _ _ t4
          refine g2 upd_same ?_
          refine ⟨_, rfl, ao, rfl, .inl ⟨_, .inl t4'⟩, _, rfl, (sz : Int), 1, rfl, rfl, valV (ow.map nnKV) (Sum.inl ((sz + 1 : Nat) : Int)), DGet.k (k := Sum.inl ((sz + 1 : Nat) : Int)) t4', ?_⟩
          rw [valN]
          refine ⟨_, rfl, (lookN ow (sz + 1) : Int), (my : Int), rfl, rfl, _, rfl, _, rfl, (sz : Int), 1, rfl, rfl, ao, _, rfl, DPut.k (k := Sum.inl ((sz + 1 : Nat) : Int)) t4' ?_, ?_⟩
          · rw [List.length_map]
            have hjl : j < (waysOn r g).length := (List.getElem?_eq_some_iff.mp hjn).1
            have hwl : (waysOn r g).length ≤ n := by
              have h1 : (waysOn r g).length ≤ (openIn r).length := List.length_filter_le _ _
              have h2 := openIn_len r
              have h3 := okr.1
              omega
            have hkl : k < items.length := (List.getElem?_eq_some_iff.mp hit).1
            exact sz20000 (by omega)
          · have eput : putK (ow.map nnKV) (Sum.inl ((sz + 1 : Nat) : Int)) (V.int ((lookN ow (sz + 1) : Int) + (my : Int))) = (bump ow (sz + 1) my).map nnKV := by
              unfold bump
              rw [← put_nn]
              rfl
            rw [eput]
            have nao : ∀ {b : Addr} {u u' : HO}, (upd Ha Tp (.tup [kV (Sum.inl (sz : Int)), vn my])) b = some u → (.dK (ow.map nnKV)) ≠ u → b ≠ ao := fun {b u u'} e hne z => by
              rw [z, t4'] at e
              exact hne (Option.some.inj e)
            refine ⟨_, _, _, rfl, fun b u hb e => ?_, ?_, ?_, upd_same, ?_, ?_⟩
            · have hbo : b ≠ ao := fun z => by rw [z, na] at e; cases e
              rw [upd_ne hbo]
              exact sT _ _ (t1 b u hb e)
            · rw [upd_ne (Ne.symm nad)]
              exact sT _ _ t2
            · rw [upd_ne (ne_of t3 t4 (fun z => nomatch z))]
              exact sT _ _ t3
            · rw [List.take_add_one, hit]
              show bump ow (sz + 1) my = (items.take k ++ [(sz, my)]).foldl _ own
              rw [List.foldl_append, ← t5]
              rfl
            · have := bump_len ow (sz + 1) my
              omega
        · obtain ⟨ow, y6'', y7'', rfl, t1, t2, t3, t4, t5, t6⟩ := p
          rw [List.length_map, List.take_length] at t5
          refine ⟨t2, ow, _, _, _, rfl, fun b u e => ?_, ?_, ?_, ?_, ?_⟩
          · by_cases hb : b = ad
            · rw [hb, upd_same]
              rw [hb, hown.1] at e
              exact e
            · rw [upd_ne hb]
              exact t1 b u hb e
          · rw [upd_ne (ne_of t3 t2 (fun z => nomatch z))]
            exact t3
          · rw [upd_ne nad]
            exact t4
          · rw [List.take_add_one, hjn]
            show ow = ((waysOn r g).take j ++ [i0 + 1]).foldl _ _
            rw [List.foldl_append, ← z4]
            show ow = ((look (lv F) (stepped r (i0 + 1))).getD []).foldl _ own
            rw [hlk2]
            exact t5
          · have h1 := bumps_len items own
            rw [← t5] at h1
            omega
      · obtain ⟨own, y5', y6', y7', rfl, z1, z2, z3, z4, z5⟩ := p
        rw [row_len, List.take_length] at z4
        have eown : own = lensRow g r (lv F) := z4
        have htop := z1 _ _ q3.top
        obtain ⟨ar, rfl, har⟩ := hrow.mono z1
        refine ⟨_, rfl, _, rfl, _, rfl, pf, _, rfl, DPut.t htop (by rw [rk_vals]; exact har) (by rw [List.length_map]; exact sz20000 (by omega)), ?_⟩
        have eput := put_rk (fun q : Addr × List (Nat × Nat) => V.ref q.1) r (ao, own) F
        have eput2 : putK (F.map (rKV fun q => V.ref q.1)) (rk r) (V.ref ao) = (putL F r (ao, own)).map (rKV fun q => V.ref q.1) := eput
        rw [eput2]
        refine ⟨putL F r (ao, own), _, _, _, _, _, rfl, fun b u e => ?_, ?_, ⟨upd_same, fun p hp => ?_⟩, ?_, ?_⟩
        · rw [upd_ne (fun z => by rw [z, nf] at e; cases e)]
          exact z1 _ _ (q1 _ _ e)
        · rw [upd_ne (ne_of (z1 _ _ q2) htop (fun z => nomatch z))]
          exact z1 _ _ q2
        · rcases putL_mem hp with hp | hp
          · have h := q3.own p hp
            have h1 := z1 _ _ h.1
            refine ⟨?_, h.2⟩
            rw [upd_ne (ne_of h1 htop (fun z => nomatch z))]
            exact h1
          · rw [hp]
            refine ⟨?_, by show own.length ≤ 60; rw [eown]; exact h60⟩
            show (upd _ pf _) ao = _
            rw [upd_ne (ne_of z3 htop (fun z => nomatch z))]
            exact z3
        · rw [← q4]
          have := putL_map (fun q : Addr × List (Nat × Nat) => q.2) F r (ao, own)
          show lensRun g (L.drop (i + 1)) (lv (putL F r (ao, own))) = lensRun g (L.drop (i + 1)) (putL (lv F) r (lensRow g r (lv F)))
          rw [← eown]
          exact congrArg _ this
        · have := putL_len F r (ao, own)
          omega
    · obtain ⟨F, y3, y4, y5, y6, y7, rfl, q1, q2, q3, q4, q5⟩ := p
      refine ⟨_, rfl, q pf F H2 q1 q3 ?_⟩
      rw [hlx, List.drop_length] at q4
      have : lensRun g L [] = some (lv F) := by rw [← q4]; rfl
      rw [elens, this]
      rfl
end
end Rg

namespace Rg
open PySem PySem.Spec PyProof.Rows L2
section
variable {P : Program} {w : World} {K : PySem.W.Frag} {mg : Str → Option Value} {base : Heap}
/-! ### many_to -/
theorem scMany : FnScope ["rows", "goal", "found", "row", "join", "after"] ["rows", "goal"] (defScope (topS 26)) := ⟨rfl, rfl, rfl, by decide +kernel, rfl, by decide +kernel, by decide +kernel⟩
def spMany : Sp := fun vs H Q _ => ∃ (n : Nat) (rows : List (List Nat)) (g : List Nat) (a : Addr) (xs : List V) (v : V), vs = [.ref a, v] ∧ H a = some (.lst xs) ∧ Paired (RowAt H) rows xs ∧ RowAt H g v ∧ (∀ r ∈ rows, ROk n r) ∧ g.length = n ∧ n ≤ 100 ∧ rows.length ≤ 1000 ∧
  rows ≠ [] ∧ closed g rows = true ∧ ∀ pf H', Same H H' → H' pf = some (.dT ((manyTo rows g).map (rKV vn))) → Q (.ref pf) H'
theorem putLs_len {α : Type} (f : α → List Nat) (h : α → Nat) : ∀ (l : List α) (d : List (List Nat × Nat)), (l.foldl (fun d x => putL d (f x) (h x)) d).length ≤ d.length + l.length
  | [], d => Nat.le_refl _
  | x :: l, d => by
    have h1 := putLs_len f h l (putL d (f x) (h x))
    have h2 := putL_len d (f x) (h x)
    show (l.foldl _ (putL d (f x) (h x))).length ≤ d.length + (l.length + 1)
    omega
theorem putL_same_len {β : Type} {d : List (List Nat × β)} {r : List Nat} {x : β} (h : Knows d r) : (putL d r x).length = d.length := by
  unfold putL
  obtain ⟨p, hp, e⟩ := h
  rw [if_pos (List.any_eq_true.mpr ⟨p, hp, eqL_iff.mpr e⟩), List.length_map]
theorem zeros_know : ∀ (rows : List (List Nat)) (d : List (List Nat × Nat)) (r : List Nat), r ∈ rows ∨ Knows d r → Knows (rows.foldl (fun d r => putL d r 0) d) r
  | [], d, r, h => h.elim (fun z => nomatch z) id
  | q :: rows, d, r, h => by
    refine zeros_know rows (putL d q 0) r ?_
    rcases h with h | h
    · rcases List.mem_cons.mp h with e | h
      · exact .inr (e ▸ Knows.new d r 0)
      · exact .inl h
    · exact .inr h.put
abbrev stepM (g r : List Nat) (found : List (List Nat × Nat)) (j : Nat) : List (List Nat × Nat) := putL found (stepped r j) ((look found (stepped r j)).getD 0 + (look found r).getD 0)
theorem has_many (A : At K mg "many_to" (topS 26)) (hW : Has P w K mg base "ways_on" 2 spWays) (hS : Has P w K mg base "stepped" 1 spStep) : Has P w K mg base "many_to" 3 spMany := by
  refine has_of A scMany (fun _ _ _ _ _ _ us hl => match us, hl with | [_, _], _ => rfl) (fun vs H Q E h => ?_) (fun fa cdv Ar outer s H vs Q E hr h => ?_)
  · obtain ⟨n, rows, g, a, xs, v, rfl, _⟩ := h
    rfl
  · obtain ⟨n, rows, g, a, xs, v, rfl, ha, dR, hv, hok, hl, hn, hrl, hne, hcl, q⟩ := h
    have hun := hr.units
    have hun1 : (Ar.deeper (envOfC "many_to" (defScope (topS 26)) s.heap.objs.size fa cdv)).units + 1 < cLine := Nat.lt_of_le_of_lt (Nat.add_le_add_left (by decide) _) hun
    refine ⟨_, pss_cons (ps_setDcT (i := 2) (own := [("row", 3)]) (g := gName 3) (Nat.lt_of_le_of_lt (Nat.le_add_right _ _) hun) rfl scMany.nd rfl rfl rfl (pi_list (pv 0))
        (blkOk_by (own := [("row", 3)]) (N := ["rows", "goal", "found", "row", "join", "after"]) (sc := defScope (topS 26)) (by decide +kernel))
        (fun _ _ _ _ _ => pg_name (i := 3) scMany.nd rfl (Or.inl rfl)) (fun _ _ _ _ _ => pv 3) (fun _ _ _ _ _ => pe_int))
      (pss_cons (ps_dput hun1 (pv 2) (pe_ix (ixL (K := K)) (pv 0) pe_int (fun _ _ => rfl)) pe_int (by rfl))
      (pss_cons (ps_for PassesOwn.never rfl (pi_list (pv 0)) (pg_name (i := 3) scMany.nd rfl (.inl rfl))
        (pss_one (ps_for PassesOwn.never rfl (pi_list (pe_c hW hr (pa_cons (pv 3) (pa_cons (pv 1) pa_nil)))) (pg_name (i := 4) scMany.nd rfl (.inl rfl))
          (pss_cons (ps_set (i := 5) scMany.nd rfl (Or.inl rfl) (pe_c hS hr (pa_cons (pv 3) (pa_cons (pv 4) pa_nil))))
          (pss_one (ps_dput hun1 (pv 2) (pv 5) (pe_op op_add (pe_dget hun1 (pv 2) (pv 5) (fun _ _ => rfl)) (pe_dget hun1 (pv 2) (pv 3) (fun _ _ => rfl))) (by rfl)))))))
      (pss_one (ps_ret (pv 2))))), ?_⟩
    refine ⟨_, rfl, a, rfl, ⟨_, SqL.of ha⟩, fun pf nf => ?_⟩
    have hxl : xs.length = rows.length := dR.length.symm
    refine walk_any (walk_list (K := K) (a := a) (xs := xs)) _ (fun i H' => Same H H' ∧ H' pf = some (.dT (((rows.take i).foldl (fun d r => putL d r 0) []).map (rKV vn))))
      ⟨same_new nf, upd_same⟩ (fun i H' _ p => SqL.of (p.1 _ _ ha)) (fun i x H2 H3 hi p yv => ?_) (fun H2 p => ?_)
    · obtain ⟨rfl, hx⟩ := yv
      obtain ⟨p1, p2⟩ := p
      obtain ⟨r, hr1, ar, rfl, har⟩ := pairedGet dR hx
      have hl0 := putLs_len (fun r : List Nat => r) (fun _ => 0) (rows.take i) []
      have htk := List.length_take_le i rows
      have htl : (rows.take i).length ≤ rows.length := by rw [List.length_take]; exact Nat.min_le_right _ _
      refine ⟨rfl, _, rfl, _, ar, rk r, rfl, p2, by rw [rk_vals]; exact p1 _ _ har, ?_, Same.mut p1 nf, ?_⟩
      · rw [List.length_map]
        have e : ([] : List (List Nat × Nat)).length = 0 := rfl
        exact sz20000 (by omega)
      · rw [upd_same]
        have e := put_rk vn r 0 ((rows.take i).foldl (fun d r => putL d r 0) [])
        rw [List.take_add_one, hr1]
        show some (HO.dT _) = some (HO.dT (((rows.take i ++ [r]).foldl (fun d r => putL d r 0) []).map (rKV vn)))
        rw [List.foldl_append]
        exact congrArg (fun z => some (HO.dT z)) e
    · obtain ⟨p1, p2⟩ := p
      rw [hxl, List.take_length] at p2
      have hz0 := putLs_len (fun r : List Nat => r) (fun _ => 0) rows []
      have hzk : ∀ r ∈ rows, Knows (rows.foldl (fun d r => putL d r 0) []) r := fun r hr => zeros_know rows [] r (.inl hr)
      have hz1 : (rows.foldl (fun d r => putL d r 0) ([] : List (List Nat × Nat))).length ≤ 1000 := by
        have e : ([] : List (List Nat × Nat)).length = 0 := rfl
        have hz0' : (rows.foldl (fun d r => putL d r 0) ([] : List (List Nat × Nat))).length ≤ ([] : List (List Nat × Nat)).length + rows.length := hz0
        omega
      have emt : manyTo rows g = rows.foldl (fun found r => (waysOn r g).foldl (stepM g r) found) (putL (rows.foldl (fun d r => putL d r 0) []) (rows.headD []) 1) := rfl
      generalize (rows.foldl (fun d r => putL d r 0) ([] : List (List Nat × Nat))) = Z at p2 hzk hz1 emt
      -- found[rows[0]] = 1
      obtain ⟨r0, rs0, erows⟩ : ∃ r0 rs0, rows = r0 :: rs0 := by
        cases rows with
        | nil => exact absurd rfl hne
        | cons a b => exact ⟨a, b, rfl⟩
      obtain ⟨x0, hx0, a0, rfl, ha0⟩ := pairedGet' dR (i := 0) (y := r0) (by rw [erows]; rfl)
      refine ⟨_, rfl, _, rfl, a, _, 0, _, rfl, rfl, SqL.of (p1 _ _ ha), atI_nat (j := 0) hx0, pf, _, rfl, DPut.t p2 (by rw [rk_vals]; exact p1 _ _ ha0) (by rw [List.length_map]; exact sz20000 (by omega)), ?_⟩
      have eput : putK (Z.map (rKV vn)) (rk r0) (V.int 1) = (putL Z (rows.headD []) 1).map (rKV vn) := by
        rw [erows]
        exact put_rk vn r0 1 Z
      rw [eput]
      have p3 : Same H (upd H2 pf (.dT ((putL Z (rows.headD []) 1).map (rKV vn)))) := Same.mut p1 nf
      have p4 : (upd H2 pf (.dT ((putL Z (rows.headD []) 1).map (rKV vn)))) pf = some (.dT ((putL Z (rows.headD []) 1).map (rKV vn))) := upd_same
      have hk0 : ∀ r ∈ rows, Knows (putL Z (rows.headD []) 1) r := fun r hr => (hzk r hr).put
      have hl0 : (putL Z (rows.headD []) 1).length ≤ 1000 := by
        rw [putL_same_len (hzk _ (by rw [erows]; exact List.mem_cons_self ..))]
        exact hz1
      generalize (upd H2 pf (.dT ((putL Z (rows.headD []) 1).map (rKV vn)))) = H3 at p3 p4
      generalize (putL Z (rows.headD []) 1) = F0 at p4 hk0 hl0 emt
      refine ⟨_, rfl, a, rfl, ⟨_, SqL.of (p3 _ _ ha)⟩, ?_⟩
      have hst : ∀ r ∈ rows, ∀ j ∈ waysOn r g, stepped r j ∈ rows := fun r hr j hj => by
        have h1 := List.all_eq_true.mp hcl r hr
        have h2 := List.all_eq_true.mp h1 j hj
        obtain ⟨q, hq, e⟩ := List.any_eq_true.mp h2
        rw [eqL_iff.mp e]
        exact hq
      refine for_it (walk_list (K := K) (a := a) (xs := xs)) (fun i σ H' => ∃ (F : List (List Nat × Nat)) (y3 y4 y5 : Option V), σ = [some (.ref a), some v, some (.ref pf), y3, y4, y5] ∧ Same H H' ∧ H' pf = some (.dT (F.map (rKV vn))) ∧
          F = (rows.take i).foldl (fun found r => (waysOn r g).foldl (stepM g r) found) F0 ∧ (∀ r ∈ rows, Knows F r) ∧ F.length ≤ 1000)
        ⟨F0, none, none, none, rfl, p3, p4, rfl, hk0, hl0⟩ (fun i σ H' _ p => by obtain ⟨_, _, _, _, _, q1, _⟩ := p; exact SqL.of (q1 _ _ ha)) (fun i x σ H4 H5 hi p yv => ?_) (fun σ H4 p => ?_)
      · obtain ⟨rfl, hx⟩ := yv
        obtain ⟨F, y3, y4, y5, rfl, q1, q2, q3, q4, q5⟩ := p
        obtain ⟨r, hr1, hrow⟩ := pairedGet dR hx
        have hmem : r ∈ rows := List.mem_of_getElem? hr1
        have okr := hok r hmem
        refine ⟨_, rfl, _, rfl, n, r, g, x, v, rfl, hrow.mono q1, hv.mono q1, okr, hl, hn, fun pw H6 nw s6 h6 => ⟨pw, rfl, ⟨_, SqL.of h6⟩, ?_⟩⟩
        refine for_it (walk_list (K := K) (a := pw) (xs := rowV (waysOn r g))) (fun j σ H' => ∃ (G : List (List Nat × Nat)) (y4 y5 : Option V), σ = [some (.ref a), some v, some (.ref pf), some x, y4, y5] ∧ Same H H' ∧ H' pw = some (.lst (rowV (waysOn r g))) ∧ H' pf = some (.dT (G.map (rKV vn))) ∧
            G = ((waysOn r g).take j).foldl (stepM g r) F ∧ (∀ r ∈ rows, Knows G r) ∧ G.length ≤ 1000)
          ⟨F, y4, y5, rfl, q1.trans s6, h6, s6 _ _ q2, rfl, q4, q5⟩ (fun j σ H' _ p => by obtain ⟨_, _, _, _, _, z2, _⟩ := p; exact SqL.of z2) (fun j z σ H7 H8 hj p yv => ?_) (fun σ H7 p => ?_)
        · obtain ⟨rfl, hz⟩ := yv
          obtain ⟨G, y4', y5', rfl, z1, z2, z3, z4, z5, z6⟩ := p
          obtain ⟨jn, hjn, rfl⟩ := row_at hz
          have hjm : jn ∈ waysOn r g := List.mem_of_getElem? hjn
          have hjo := waysOn_mem hjm
          obtain ⟨i0, rfl, _, _⟩ := openIn_mem hjo
          refine ⟨_, rfl, _, rfl, n, i0, r, x, rfl, hrow.mono z1, okr, hn, hjo, fun p9 H9 s9 h9 => ?_⟩
          obtain ⟨c1, hc1⟩ := (z5 _ (hst r hmem _ hjm)).look
          obtain ⟨c2, hc2⟩ := (z5 r hmem).look
          have hpf9 := s9 _ _ z3
          obtain ⟨ar, rfl, har⟩ := hrow.mono z1
          have hv1 : valV (G.map (rKV vn)) (rk (stepped r (i0 + 1))) = some (vn c1) := by rw [look_val, hc1]; rfl
          have hv2 : valV (G.map (rKV vn)) (rk r) = some (vn c2) := by rw [look_val, hc2]; rfl
          refine ⟨_, rfl, _, rfl, pf, vn c1, rfl, by rw [← hv1]; exact DGet.t hpf9 (by rw [rk_vals]; exact h9), _, rfl, _, rfl, pf, vn c2, rfl, by rw [← hv2]; exact DGet.t hpf9 (by rw [rk_vals]; exact s9 _ _ har), (c1 : Int), (c2 : Int), rfl, rfl,
            _, rfl, _, rfl, pf, _, rfl, DPut.t hpf9 (by rw [rk_vals]; exact h9) (by rw [List.length_map]; exact sz20000 (by omega)), ?_⟩
          have eput2 : putK (G.map (rKV vn)) (rk (stepped r (i0 + 1))) (V.int ((c1 : Int) + (c2 : Int))) = (stepM g r G (i0 + 1)).map (rKV vn) := by
            unfold stepM
            rw [hc1, hc2]
            exact put_rk vn (stepped r (i0 + 1)) (c1 + c2) G
          rw [eput2]
          refine ⟨stepM g r G (i0 + 1), _, _, rfl, Same.mut (z1.trans s9) nf, ?_, upd_same, ?_, fun r hr => (z5 r hr).put, ?_⟩
          · rw [upd_ne (ne_of (s9 _ _ z2) hpf9 (fun z => nomatch z))]
            exact s9 _ _ z2
          · rw [List.take_add_one, hjn]
            show stepM g r G (i0 + 1) = ((waysOn r g).take j ++ [i0 + 1]).foldl _ F
            rw [List.foldl_append, ← z4]
            rfl
          · rw [putL_same_len (z5 _ (hst r hmem _ hjm))]
            exact z6
        · obtain ⟨G, y4', y5', rfl, z1, z2, z3, z4, z5, z6⟩ := p
          rw [row_len, List.take_length] at z4
          refine ⟨G, _, _, _, rfl, z1, z3, ?_, z5, z6⟩
          rw [List.take_add_one, hr1]
          show G = (rows.take i ++ [r]).foldl _ F0
          rw [List.foldl_append, ← q3]
          exact z4
      · obtain ⟨F, y3, y4, y5, rfl, q1, q2, q3, q4, q5⟩ := p
        rw [hxl, List.take_length] at q3
        refine ⟨_, rfl, q pf H4 q1 ?_⟩
        rw [emt, ← q3]
        exact q2
end
end Rg

/-! methods by name; fields as targets; a test by an own __contains__ -/
namespace Rg
open PySem PySem.Spec PyProof.Rows L2
structure AtM (K : PySem.W.Frag) (C : Addr) (m q : Str) (st : Stmt) : Prop where
  ex : ∃ f fd, Fun K m q st f fd ∧ Meth K C m f
structure HasM (P : Program) (w : World) (K : PySem.W.Frag) (mg : Str → Option Value) (base : Heap) (C : Addr) (m : Str) (k : Nat) (sp : Sp) : Prop where
  ex : ∃ f fd ps, FnOk P w K mg base CX0 k f fd ps sp ∧ Meth K C m f ∧ Binds K fd ps []
structure AtP (K : PySem.W.Frag) (C : Addr) (m q : Str) (st : Stmt) : Prop where
  ex : ∃ p g fd, Fun K m q st g fd ∧ PropOf K C m p g
structure HasP (P : Program) (w : World) (K : PySem.W.Frag) (mg : Str → Option Value) (base : Heap) (C : Addr) (m : Str) (k : Nat) (sp : Sp) : Prop where
  ex : ∃ p g fd ps, FnOk P w K mg base CX0 k g fd ps sp ∧ PropOf K C m p g ∧ Binds K fd ps []
section
variable {P : Program} {w : World} {K : PySem.W.Frag} {mg : Str → Option Value} {base : Heap} {C : Addr} {m q : Str} {st : Stmt} {N ps : List Str} {k : Nat} {sp : Sp}
theorem hasM_of (A : AtM K C m q st) (S : FnScope N ps (defScope st))
    (hb : ∀ (kV doc pm : Value) (an : Option Addr) (cdv ct : Value) (us : List Value), us.length = ps.length → bindArgs (PySem.W.fnOf m q (defArgs st) (defBody st) (defScope st) .none kV doc pm an cdv ct) ⟨us, []⟩ = pure (ps.zip us))
    (len : ∀ vs H Q E, sp vs H Q E → vs.length = ps.length)
    (hbody : ∀ (f : Addr) (cdv : Value) (A : Around) (outer : List Env) (s : Shared) (H : Hp) (vs : List V) (Q : VK) (E : XK), Room k (A.deeper (envOfC q (defScope st) s.heap.objs.size f cdv)) → sp vs H Q E →
      ∃ t, PSs (cxOf CX0 P w K mg base N q (defScope st) f cdv A outer s H E).nox (defBody st) t ∧ t { nx := fun _ H' => Q .non H', rt := Q } (start N vs) H) : HasM P w K mg base C m (k + 1) sp := by
  obtain ⟨f, fd, F, hm⟩ := A.ex
  exact ⟨f, fd, ps, F.ok S len (fun cdv A outer s H vs Q E hr h => hbody f cdv A outer s H vs Q E hr h), hm, F.binds hb⟩
theorem hasP_of (A : AtP K C m q st) (S : FnScope N ps (defScope st))
    (hb : ∀ (kV doc pm : Value) (an : Option Addr) (cdv ct : Value) (us : List Value), us.length = ps.length → bindArgs (PySem.W.fnOf m q (defArgs st) (defBody st) (defScope st) .none kV doc pm an cdv ct) ⟨us, []⟩ = pure (ps.zip us))
    (len : ∀ vs H Q E, sp vs H Q E → vs.length = ps.length)
    (hbody : ∀ (f : Addr) (cdv : Value) (A : Around) (outer : List Env) (s : Shared) (H : Hp) (vs : List V) (Q : VK) (E : XK), Room k (A.deeper (envOfC q (defScope st) s.heap.objs.size f cdv)) → sp vs H Q E →
      ∃ t, PSs (cxOf CX0 P w K mg base N q (defScope st) f cdv A outer s H E).nox (defBody st) t ∧ t { nx := fun _ H' => Q .non H', rt := Q } (start N vs) H) : HasP P w K mg base C m (k + 1) sp := by
  obtain ⟨p, g, fd, F, hp⟩ := A.ex
  exact ⟨p, g, fd, ps, F.ok S len (fun cdv A outer s H vs Q E hr h => hbody g cdv A outer s H vs Q E hr h), hp, F.binds hb⟩
end
section
variable {X : Cx} {C : Addr} {m f : Str} {k n : Nat} {sp : Sp} {o e value : Expr} {es : List Expr} {ta : TE} {t : TA} {pos apos : Pos}
theorem pe_m {pl : Sem Bool} (h : HasM X.prog X.w X.K X.mg X.base C m k sp) (c : Cls X.K C) (hr : Room n X.A) (he : PE X o ta) (ha : PA X (e :: es) t) (hkm : k ≤ n := by decide)
    (hst : starEach (e :: es) X.env = (false, eval e X.env) :: starEach es X.env := by rfl) (hpl : (backTo pos (starEach es X.env)).any (·.1) = false := by rfl)
    (ht : eval (.Call (.Attribute o m apos) (e :: es) [] pos) X.env = (do
      let ov ← eval o X.env; standAt apos.atName
      let (f, first) ← holding [ov] (getMethod ov m pl); callWith pos f first (backTo pos (starEach (e :: es) X.env)) (backToKw pos (keywordEach [] X.env))) := by rfl) :
    PE X (.Call (.Attribute o m apos) (e :: es) [] pos) (tMeth C m sp [] E0 ta t) := by
  obtain ⟨f, fd, ps, h1, h2, h3⟩ := h.ex
  exact pe_meth he c h2 h1 (hr.mono hkm) h3 .nil pass0 ha hst hpl ht
theorem pe_p (h : HasP X.prog X.w X.K X.mg X.base C m k sp) (c : Cls X.K C) (hr : Room n X.A) (he : PE X o ta) (hkm : k + 1 ≤ n := by decide) (hab : attributeBase o m X.env (eval o X.env) = eval o X.env := by rfl) :
    PE X (.Attribute o m pos) (tProp C sp [] E0 ta) := by
  obtain ⟨p, g, fd, ps, h1, h2, h3⟩ := h.ex
  exact pe_prop he c h2 h1 (hr.mono hkm) h3 .nil pass0 hab
/-- o.f as a target -/
def gFld (K : PySem.W.Frag) (ta : TE) (f : Str) : TG := fun y σ H Q => ta σ H fun x H2 => ∃ a C dx fs, x = .ref a ∧ H2 a = some (.ins C dx fs) ∧ Cls K C ∧ NoAttr K C f ∧ fs.length < 1000 ∧ Q σ (upd H2 a (.ins C dx (putF f y fs)))
theorem pg_fld (ho : PE X o ta) : PG X (.Attribute o f pos) (gFld X.K ta f) := by
  refine ⟨fun pins s σ H y u Q I ry h => ?_⟩
  show wpAny _ _ (do
    let ov ← holding [u] (eval o X.env); standAt pos.atName
    holding [u, ov] (setAttr ov f u); release [u, ov] []) _ _ s
  refine wpAny_bind (wpAny_holding (thn (ho.run pins s σ H _ I h) fun ov s1 ⟨x, H2, I2, rx, a, C, dx, fs, ex, ea, c, n, l, q⟩ => ?_))
  subst ex
  obtain rfl : ov = Value.ref a := rx
  refine wpAny_bind (wpAny_standAt (wpAny_bind (wpAny_holding (setattr_ok I2 ea c n l ry fun s3 I3 => ?_))))
  exact wpAny_release ⟨σ, _, I3, q⟩
end
/-! ### x in o, o of a class with an own __contains__ -/
theorem contains_own {M : Model} {A : Around} {E : Value → Shared → Prop} {s : Shared} {K : PySem.W.Frag} {C x g : Addr} {ox : Obj} {od : Option Obj} {v : Value} {Q : Bool → Shared → Prop} (X : K.In s.heap) (I : PySem.W.InstAt s.heap x ox C od)
    (hs : PySem.W.findIn K (.ref C) "__contains__" = some (some (.ref g))) (hf : PySem.W.isFn K (.ref g) = true) (h : wpAny M A (call (.ref g) [.ref x, v]) (fun r s' => ∃ b, r = .bool b ∧ Q b s') E s) : wpAny M A (contains (.ref x) v) Q E s := by
  unfold contains
  refine wpAny_holding ?_
  show wpAny M A (specialOf (.ref x) "__contains__" >>= _) Q E s
  have sp : ∀ {Q : Option Value → Shared → Prop}, Q (some (.ref g)) s → wpAny M A (specialOf (.ref x) "__contains__") Q E s := fun q => wpAny_bind (I.type.here ((PySem.W.looks_findIn X hs).here q))
  refine wpAny_bind (sp ?_)
  show wpAny M A (if (some (Value.ref g) == some Value.none) = true then _ else _) Q E s
  rw [if_neg (by simp)]
  refine wpAny_bind ?_
  simp only [callSpecialUnlessNone?]
  refine wpAny_bind (sp ?_)
  refine wpAny_holding (wpAny_bind ((PySem.W.bind_fn X _ (beq_iff_eq.mp hf)).here ?_))
  show wpAny M A (if (Value.ref g == Value.none) = true then _ else _) _ E s
  rw [if_neg (by simp)]
  refine wpAny_bind (wpAny_mono h (fun r s' z => ?_) fun _ _ z => z)
  obtain ⟨b, rfl, q⟩ := z
  exact wpAny_pure (wpAny_truthy_bool q)
def rOwnIn (C : Addr) (sp : Sp) : R2 := fun x y H Q => ∃ a dx fs, y = .ref a ∧ H a = some (.ins C dx fs) ∧ sp [.ref a, x] H (fun v H' => ∃ b, v = .bl b ∧ Q (.bl b) H') E0
theorem op_ownIn {X : Cx} {C : Addr} {k n : Nat} {sp : Sp} (h : HasM X.prog X.w X.K X.mg X.base C "__contains__" k sp) (hr : Room n X.A) (hkm : k ≤ n := by decide) : OpR X (compareOp .In) (rOwnIn C sp) := by
  intro pins s σ H x y v u Q I rx ry hh
  obtain ⟨a, dx, fs, rfl, ha, q⟩ := hh
  obtain rfl : u = Value.ref a := ry
  obtain ⟨f, fd, ps, h1, h2, h3⟩ := h.ex
  obtain ⟨mA, O, _⟩ := ins_get I.hok ha
  obtain ⟨od, J, _⟩ := O.look
  show wpAny _ _ (contains (.ref a) v >>= fun b => pure (Value.bool b)) _ _ s
  refine wpAny_bind (contains_own I.kIn J h2.at_ h2.fn (wpAny_mono (run_fn (E := E0) (us := [.ref a, v]) (vs := [.ref a, x]) h1 (hr.mono hkm) h3 .nil pass0 I (.cons rfl (.cons rx .nil)) q) (fun r s' z => ?_) fun _ _ z => z))
  obtain ⟨w, H', I', rw', b, rfl, q'⟩ := z
  cases rw'
  exact ⟨b, rfl, wpAny_pure ⟨.bl b, H', I', rfl, q'⟩⟩
end Rg

/-! d.get(None, x), d's keys tuples -/
namespace Rg
open PySem PySem.Spec PyProof.Rows L2
def hNone : Int := 4238894112
def rowHash (r : List Nat) : Int := reduceHash (Builtin.Tuple.tupleHashOf (r.map fun n : Nat => hashInt (n : Int)))
section
variable {prog : Program} {w : World} {A : Around} {E : Value → Shared → Prop} {s : Shared}
theorem hash_none {Q : Int → Shared → Prop} (hu : A.units < cLine) (h : Q hNone { s with toks := s.toks + 1 }) : wpAny (model prog w) A (pyHash .none) Q E s := by
  have hT : s.TypeIs .none "NoneType" := rfl
  show wpAny _ _ (pyHashByItsType .none) Q E s
  unfold pyHashByItsType
  refine wpAny_bind (wpAny_cRoomFor_or (.inr hu) ?_)
  refine wpAny_bind (wpAny_specialOf hT PySem.F.slot_NoneType_hash.lookup ?_)
  show wpAny _ _ (if (some (Value.builtin "NoneType.__hash__") == some Value.none) = true then _ else _) Q E s
  rw [if_neg (by rw [beq_builtin_none]; exact Bool.false_ne_true)]
  refine wpAny_bind (wpAny_specialOf hT PySem.F.slot_NoneType_hash.lookup ?_)
  show wpAny _ _ (callSpecialIfBoundUnlessNone? .none "__hash__" _ >>= _) Q E s
  refine wpAny_bind (wpAny_callSpecialIfBoundUnlessNone?_slot hT PySem.F.slot_NoneType_hash (wpAny_call_entry PySem.F.slot_NoneType_hash hT PySem.F.entry_NoneType_hash ?_ (PySem.F.args_NoneType_hash_1 _)))
  show wpAny _ _ (slotArgs "__hash__" 0 _ >>= _) _ _ s
  refine wpAny_bind (m := slotArgs "__hash__" 0 _) (wpAny_pure ?_)
  refine wpAny_ret_mkInt ?_
  show wpAny _ _ (if (decide (-(2 : Int) ^ 63 ≤ 4238894112) && decide ((4238894112 : Int) < 2 ^ 63)) = true then pure (if ((4238894112 : Int) == -1) = true then -2 else 4238894112) else _) Q E _
  rw [if_pos (by decide +kernel), if_neg (by decide +kernel)]
  exact wpAny_pure h
theorem get_none {d : Addr} {xs : List (List L2.Key × Addr × Value)} {Q : Option Value → Shared → Prop} (hu : A.units < cLine) (hm : s.heap.DictOfH (tupleKind (mixKind prog w)) d xs) (hne : ∀ x ∈ xs, (tupleKind (mixKind prog w)).hash x.1 ≠ hNone)
    (h : Q none { s with toks := s.toks + 1 }) : wpAny (model prog w) A (dictGet d .none) Q E s := by
  obtain ⟨o, es, ep, ho, hc, hd, he, his, hn⟩ := hm
  unfold dictGet
  refine wpAny_holding (wpAny_bind (hash_none hu (wpAny_bind ?_)))
  unfold dictFind
  refine wpAny_holding (wpAny_bind (wpAny_dictEntries (s := { s with toks := s.toks + 1 }) ho hd ?_))
  have pl : placesWithHash es.size (fun i => es[i]?.map (·.hash)) hNone = [] := by
    unfold placesWithHash
    refine List.filter_eq_nil_iff.mpr fun i _ hi => ?_
    have hi : (es[i]?.map (·.hash) == some hNone) = true := hi
    cases hx : xs[i]? with
    | none => rw [entry_at he i, hx] at hi; cases hi
    | some x =>
      rw [entry_at he i, hx] at hi
      have : (tupleKind (mixKind prog w)).hash x.1 = hNone := by simpa [entryOfKey] using hi
      exact hne x (List.mem_of_getElem? hx) this
  dsimp only
  rw [pl]
  show wpAny _ _ (dictWalkPlain d .none hNone es []) _ _ _
  unfold dictWalkPlain
  exact wpAny_pure (wpAny_pure h)
theorem call_get_none {d : Addr} {xs : List (List L2.Key × Addr × Value)} {r : Value} {Q : Value → Shared → Prop} (hu : A.units + 1 < cLine) (hd : (d == sysModules) = false) (hm : s.heap.DictOfH (tupleKind (mixKind prog w)) d xs) (hne : ∀ x ∈ xs, (tupleKind (mixKind prog w)).hash x.1 ≠ hNone)
    (h : Q r { s with toks := s.toks + 1 }) : wpAny (model prog w) A (call (.builtin "dict.get") [.ref d, .none, r]) Q E s := by
  have mt : MeetsIn prog w (Builtin.«dict.get» ⟨[.ref d, .none, r], []⟩) (fun A R s => A.units + 1 < cLine ∧ ∃ xs, s.heap.DictOfH (tupleKind (mixKind prog w)) d xs ∧ (∀ x ∈ xs, (tupleKind (mixKind prog w)).hash x.1 ≠ hNone) ∧
      R (.ok (.ret r)) { s with toks := s.toks + 1 }) := .of_wp fun A R s ⟨hu, xs, hm, hne, h⟩ => by
    show wpAny _ _ (dictGet d .none >>= _) _ _ s
    refine wpAny_bind (get_none hu hm hne ?_)
    show wpAny _ _ (Builtin.Dict.missed d .none >>= _) _ _ _
    exact wpAny_bind (wpAny_missed_other hd (wpAny_pure ⟨r, rfl, h⟩))
  exact call_meetsIn PySem.F.slot_dict_get hm.typeIs PySem.F.entry_dict_get (PySem.F.args_dict_get_3 _ _ _) mt ⟨hu, xs, hm, hne, h⟩
end
theorem kt_keys {H : Hp} : ∀ {kvs : List (List L2.Key × V)} {xs : List (List L2.Key × Addr × Value)}, KT H kvs xs → ∀ x ∈ xs, ∃ p ∈ kvs, p.1 = x.1
  | _, _, .nil, _, h => nomatch h
  | p :: _, _, .cons h t, x, hx => by
    rcases List.mem_cons.mp hx with e | hx
    · exact ⟨p, List.mem_cons_self .., by rw [e]; exact h.1⟩
    · obtain ⟨q, hq, e⟩ := kt_keys t x hx
      exact ⟨q, List.mem_cons_of_mem _ hq, e⟩
theorem hash_rk {prog : Program} {w : World} (r : List Nat) : (tupleKind (mixKind prog w)).hash (rk r) = rowHash r := by
  show reduceHash (Builtin.Tuple.tupleHashOf ((rk r).map (mixKind prog w).hash)) = _
  unfold rk rowHash
  rw [List.map_map]
  rfl
/-- d.get(y, z): y a row, or None -/
def tDGetN (td ty tx : TE) : TE := fun σ H Q => td σ H fun x H1 => ∃ a, x = .ref a ∧ IsD H1 a ∧ ty σ H1 fun y H2 => tx σ H2 fun z H3 => (∃ o, DGet H3 a y o ∧ Q (o.getD z) H3) ∨
  (y = .non ∧ ∃ kvs, H3 a = some (.dT kvs) ∧ (∀ p ∈ kvs, ∃ r, p.1 = rk r ∧ rowHash r ≠ hNone) ∧ Q z H3)
theorem pe_dgetN {X : Cx} {o e f : Expr} {apos cpos : Pos} {td ty tx : TE} (hu : X.A.units + 2 < cLine) (ho : PE X o td) (he : PE X e ty) (hf : PE X f tx) (m : M2 X o "get" apos e f cpos) : PE X (.Call (.Attribute o "get" apos) [e, f] [] cpos) (tDGetN td ty tx) := by
  refine ⟨fun pins s σ H Q I h => ?_⟩
  refine wpAny_Call_method m.base m.few m.line PySem.F.plainAttrs_dict PySem.F.slot_dict_get PySem.F.type_dict_get (thn (ho.run pins s σ H _ I h) fun u s1 ⟨x, H1, I1, rx, a, ex, d, q1⟩ => ?_)
  subst ex
  obtain rfl : u = Value.ref a := rx
  obtain ⟨t1, t2, _⟩ := isD_at I1 d
  refine ⟨t1, t2, ?_⟩
  rw [m.trees]
  refine Calls.callWith_builtin rfl (Calls.evalArgs_plain (Calls.spliced_cons (thn (he.run pins s1 σ H1 _ I1 q1) fun iv s2 ⟨y, H2, I2, ry, q2⟩ => Calls.spliced_cons (thn (hf.run pins s2 σ H2 _ I2 q2) fun fv s3 ⟨z, H3, I3, rz, q3⟩ => Calls.spliced_nil ?_))))
  rcases q3 with ⟨ov, g, q⟩ | ⟨ey, kvs, ha, hk, q⟩
  · exact d_get2 (by omega) I3 g ry rz fun w' s4 I4 rw' => ⟨_, H3, I4, rw', q⟩
  · subst ey
    cases ry
    obtain ⟨zz, hd, xs, rel, dd⟩ := dt_of I3.hok ha
    refine call_get_none (by omega) hd dd (fun x hx => ?_) ⟨z, H3, I3.tok _, rz, q⟩
    obtain ⟨p, hp, e⟩ := kt_keys rel x hx
    obtain ⟨r, er, hr⟩ := hk p hp
    rw [← e, er, hash_rk]
    exact hr
end Rg

namespace Rg
open PySem PySem.Spec PyProof.Rows L2
abbrev sRoutes : Stmt := topS 27
abbrev mS (i : Nat) : Stmt := inClass sRoutes i
def flds : List Str := ["own_start", "own_end", "own_first", "own_goal", "own_rows", "own_lengths", "own_to"]
/-- what the class's text must have -/
structure Ro (K : PySem.W.Frag) (C : Addr) : Prop where
  cl : Cls K C
  nStart : NoAttr K C "own_start"
  nEnd : NoAttr K C "own_end"
  nFirst : NoAttr K C "own_first"
  nGoal : NoAttr K C "own_goal"
  nRows : NoAttr K C "own_rows"
  nLens : NoAttr K C "own_lengths"
  nTo : NoAttr K C "own_to"
abbrev D.own (d : D) : List (Nat × Nat) := (look d.lens d.first).getD []
/-- data that is well -/
structure GoodD (n : Nat) (d : D) : Prop where
  hn : n ≤ 100
  okf : ROk n d.first
  gl : d.goal.length = n
  hf : ∃ l, look d.lens d.first = some l
  hash : ∀ p ∈ d.lens, rowHash p.1 ≠ hNone
  bd : ∀ q ∈ d.own, q.1 < 1000000 ∧ q.2 < 1000000
  tob : ∀ r, (look d.to r).getD 0 < 1000000
  pos : 0 < d.many
  posb : d.many < 1000000
/-- the instance at a -/
structure RtAt (C : Addr) (H : Hp) (a : Addr) (s : T) (d : D) : Prop where
  ex : ∃ (dx : Addr) (fs : List (Str × V)) (vs vf vg : V) (pf pt : Addr) (F : List (List Nat × Addr × List (Nat × Nat))), H a = some (.ins C dx fs) ∧ (∀ m, m ∉ flds → fs.lookup m = none) ∧ fs.lookup ("own_start" : Str) = some vs ∧ TOk H s vs ∧
    fs.lookup ("own_first" : Str) = some vf ∧ RowAt H d.first vf ∧ fs.lookup ("own_goal" : Str) = some vg ∧ RowAt H d.goal vg ∧ fs.lookup ("own_lengths" : Str) = some (.ref pf) ∧ LensAt H pf F ∧ lv F = d.lens ∧ fs.lookup ("own_to" : Str) = some (.ref pt) ∧ H pt = some (.dT (d.to.map (rKV vn)))
theorem RtAt.mono {C : Addr} {H H' : Hp} {a : Addr} {s : T} {d : D} (h : RtAt C H a s d) (e : Same H H') : RtAt C H' a s d := by
  obtain ⟨dx, fs, vs, vf, vg, pf, pt, F, h1, h2, h3, h4, h5, h6, h7, h8, h9, h10, h11, h12, h13⟩ := h.ex
  exact ⟨dx, fs, vs, vf, vg, pf, pt, F, e _ _ h1, h2, h3, h4.mono e, h5, h6.mono e, h7, h8.mono e, h9, h10.mono e, h11, h12, e _ _ h13⟩
theorem lens_look {H : Hp} {pf : Addr} {F : List (List Nat × Addr × List (Nat × Nat))} {r : List Nat} {l : List (Nat × Nat)} (h : LensAt H pf F) (hl : look (lv F) r = some l) :
    ∃ ad, valV (F.map (rKV fun q => V.ref q.1)) (rk r) = some (V.ref ad) ∧ H ad = some (.dK (l.map nnKV)) ∧ l.length ≤ 60 := by
  have e := look_map (fun q : Addr × List (Nat × Nat) => q.2) r F
  have e' : look (lv F) r = (Rg.look F r).map (·.2) := e
  rw [hl] at e'
  cases hq : Rg.look F r with
  | none => rw [hq] at e'; cases e'
  | some q =>
    rw [hq] at e'
    have e2 : l = q.2 := Option.some.inj e'
    obtain ⟨p, hp, ep⟩ := look_mem hq
    have := h.own p hp
    rw [ep, ← e2] at this
    exact ⟨q.1, by rw [look_val, hq]; rfl, this.1, this.2⟩
theorem lens_look0 {F : List (List Nat × Addr × List (Nat × Nat))} {r : List Nat} (hl : Rg.look (lv F) r = none) : valV (F.map (rKV fun q => V.ref q.1)) (rk r) = none := by
  have e' : Rg.look (lv F) r = (Rg.look F r).map (·.2) := look_map (fun q : Addr × List (Nat × Nat) => q.2) r F
  rw [hl] at e'
  rw [look_val]
  cases hq : Rg.look F r with
  | none => rfl
  | some q => rw [hq] at e'; cases e'
theorem sumV_cast (l : List (Nat × Nat)) : (l.map fun q => (q.2 : Int)).sum = ((sumV l : Nat) : Int) := by
  have := sum_cast (l.map (·.2))
  rw [List.map_map] at this
  exact this
section
variable {P : Program} {w : World} {K : PySem.W.Frag} {mg : Str → Option Value} {base : Heap} {C : Addr}
theorem scSelf (st : Stmt) (h : st = mS 3 ∨ st = mS 4 ∨ st = mS 5) : FnScope ["self", "size", "many"] ["self"] (defScope st) := by
  rcases h with rfl | rfl | rfl <;> exact ⟨rfl, rfl, rfl, by decide +kernel, rfl, by decide +kernel, by decide +kernel⟩
/-! ### many -/
def spMy (C : Addr) : Sp := fun vs H Q _ => ∃ (n : Nat) (a : Addr) (s : T) (d : D), vs = [.ref a] ∧ RtAt C H a s d ∧ GoodD n d ∧ ∀ H', Same H H' → Q (vn d.many) H'
theorem hp_many (B : Bi mg) (R : Ro K C) (A : AtP K C "many" "Routes.many" (mS 3)) : HasP P w K mg base C "many" 1 (spMy C) := by
  refine hasP_of A (scSelf _ (.inl rfl)) (fun _ _ _ _ _ _ us hl => match us, hl with | [_], _ => rfl) (fun vs H Q E h => ?_) (fun fa cdv Ar outer s H vs Q E hr h => ?_)
  · obtain ⟨n, a, s, d, rfl, _⟩ := h
    rfl
  · obtain ⟨n, a, st, d, rfl, hR, hG, q⟩ := h
    have hun := hr.units
    have hun1 : (Ar.deeper (envOfC "Routes.many" (defScope (mS 3)) s.heap.objs.size fa cdv)).units + 1 < cLine := Nat.lt_of_le_of_lt (Nat.add_le_add_left (by decide) _) hun
    refine ⟨_, pss_one (ps_ret (pe_callB cSumV (by rfl) B.sum (by decide +kernel) (pa_cons (pe_bm0 PySem.F.plainAttrs_dict PySem.F.slot_dict_values PySem.F.type_dict_values mt_valuesK (pe_dget hun1 (pe_fld (pv 0) rfl) (pe_fld (pv 0) rfl) (fun _ _ => rfl))) pa_nil))), ?_⟩
    obtain ⟨dx, fs, vs, vf, vg, pf, pt, F, h1, h2, h3, h4, h5, ⟨af, rfl, h6⟩, h7, h8, h9, h10, h11, h12, h13⟩ := hR.ex
    obtain ⟨l, hl⟩ := hG.hf
    obtain ⟨ad, v1, v2, v3⟩ := lens_look h10 (r := d.first) (l := l) (by rw [h11]; exact hl)
    refine ⟨_, rfl, a, C, dx, fs, _, rfl, h1, R.cl, R.nLens, h9, _, rfl, a, C, dx, fs, _, rfl, h1, R.cl, R.nFirst, h5, pf, V.ref ad, rfl, by rw [← v1]; exact DGet.t h10.top (by rw [rk_vals]; exact h6), ?_⟩
    refine ⟨.inr (.inr (.inl ⟨rfl, .inl ⟨_, v2⟩⟩)), ad, _, rfl, rfl, v2, fun p np => ?_⟩
    have sp := same_new (o := valuesO p ad) np
    refine ⟨p, ad, _, l.map fun q => (q.2 : Int), rfl, upd_same, sp _ _ v2, ?_, ?_⟩
    · rw [List.map_map, List.map_map]
      rfl
    · rw [sumV_cast]
      have e : d.many = sumV l := by
        unfold D.many D.onFrom
        rw [hl]
        rfl
      rw [← e]
      exact q _ sp
/-! ### lengths -/
def spLs (C : Addr) : Sp := fun vs H Q _ => ∃ (n : Nat) (a : Addr) (s : T) (d : D), vs = [.ref a] ∧ RtAt C H a s d ∧ GoodD n d ∧ ∀ p (zs : List (Addr × Nat × Nat)) H', Same H H' → (zs.map (·.2)).Perm d.own → H' p = some (.tup (zs.map fun z => V.ref z.1)) →
  (∀ z ∈ zs, H' z.1 = some (.tup [vn z.2.1, vn z.2.2])) → Q (.ref p) H'
theorem hp_lengths (B : Bi mg) (R : Ro K C) (A : AtP K C "lengths" "Routes.lengths" (mS 4)) : HasP P w K mg base C "lengths" 1 (spLs C) := by
  refine hasP_of A (scSelf _ (.inr (.inl rfl))) (fun _ _ _ _ _ _ us hl => match us, hl with | [_], _ => rfl) (fun vs H Q E h => ?_) (fun fa cdv Ar outer s H vs Q E hr h => ?_)
  · obtain ⟨n, a, s, d, rfl, _⟩ := h
    rfl
  · obtain ⟨n, a, st, d, rfl, hR, hG, q⟩ := h
    have hun := hr.units
    have hun1 : (Ar.deeper (envOfC "Routes.lengths" (defScope (mS 4)) s.heap.objs.size fa cdv)).units + 1 < cLine := Nat.lt_of_le_of_lt (Nat.add_le_add_left (by decide) _) hun
    refine ⟨_, pss_one (ps_ret (pe_callTy (cTup (K := K)) (by rfl) B.tuple (by decide +kernel) (pa_cons (pe_callB cSortIK (by rfl) B.sorted (by decide +kernel) (pa_cons (pe_bm0 PySem.F.plainAttrs_dict PySem.F.slot_dict_items PySem.F.type_dict_items mt_itemsK (pe_dget hun1 (pe_fld (pv 0) rfl) (pe_fld (pv 0) rfl) (fun _ _ => rfl))) pa_nil)) pa_nil))), ?_⟩
    obtain ⟨dx, fs, vs, vf, vg, pf, pt, F, h1, h2, h3, h4, h5, ⟨af, rfl, h6⟩, h7, h8, h9, h10, h11, h12, h13⟩ := hR.ex
    obtain ⟨l, hl⟩ := hG.hf
    have eown : d.own = l := by unfold D.own; rw [hl]; rfl
    obtain ⟨ad, v1, v2, v3⟩ := lens_look h10 (r := d.first) (l := l) (by rw [h11]; exact hl)
    refine ⟨_, rfl, a, C, dx, fs, _, rfl, h1, R.cl, R.nLens, h9, _, rfl, a, C, dx, fs, _, rfl, h1, R.cl, R.nFirst, h5, pf, V.ref ad, rfl, by rw [← v1]; exact DGet.t h10.top (by rw [rk_vals]; exact h6), ?_⟩
    refine ⟨.inr (.inr (.inl ⟨rfl, .inl ⟨_, v2⟩⟩)), ad, _, rfl, rfl, v2, fun p np => ?_⟩
    have sp := same_new (o := L2.DX.itemsO p ad) np
    refine ⟨p, ad, l, rfl, upd_same, sp _ _ v2, by omega, fun q hq => hG.bd q (by rw [eown]; exact hq), fun H' p2 zs s2 pm h2 hz => ?_⟩
    refine ⟨p2, _, rfl, .inl ⟨SqL.of h2, fun p3 np3 => ?_⟩⟩
    have s3 := same_new (o := .tup (zs.map fun z => V.ref z.1)) np3
    exact q p3 zs _ (sp.trans (s2.trans s3)) (by rw [eown]; exact pm) upd_same fun z hz2 => s3 _ _ (hz z hz2)
/-! ### on_from -/
theorem scOn : FnScope ["self", "row"] ["self", "row"] (defScope (mS 6)) := ⟨rfl, rfl, rfl, by decide +kernel, rfl, by decide +kernel, by decide +kernel⟩
def spOn (C : Addr) : Sp := fun vs H Q _ => ∃ (n : Nat) (a : Addr) (s : T) (d : D) (v : V) (m : Nat), vs = [.ref a, v] ∧ RtAt C H a s d ∧ GoodD n d ∧ ((∃ r, RowAt H r v ∧ m = d.onFrom r) ∨ (v = .non ∧ m = 0)) ∧ ∀ H', Same H H' → Q (vn m) H'
theorem hm_on (B : Bi mg) (R : Ro K C) (A : AtM K C "on_from" "Routes.on_from" (mS 6)) : HasM P w K mg base C "on_from" 1 (spOn C) := by
  refine hasM_of A scOn (fun _ _ _ _ _ _ us hl => match us, hl with | [_, _], _ => rfl) (fun vs H Q E h => ?_) (fun fa cdv Ar outer s H vs Q E hr h => ?_)
  · obtain ⟨n, a, s, d, v, m, rfl, _⟩ := h
    rfl
  · obtain ⟨n, a, st, d, v, m, rfl, hR, hG, hv, q⟩ := h
    have hun := hr.units
    have hun2 : (Ar.deeper (envOfC "Routes.on_from" (defScope (mS 6)) s.heap.objs.size fa cdv)).units + 2 < cLine := Nat.lt_of_le_of_lt (Nat.add_le_add_left (by decide) _) hun
    refine ⟨_, pss_one (ps_ret (pe_callB cSumV (by rfl) B.sum (by decide +kernel) (pa_cons (pe_bm0 PySem.F.plainAttrs_dict PySem.F.slot_dict_values PySem.F.type_dict_values mt_valuesK (pe_dgetN hun2 (pe_fld (pv 0) rfl) (pv 1) pe_dnewK ⟨by rfl, by rfl, by rfl, by rfl⟩)) pa_nil))), ?_⟩
    obtain ⟨dx, fs, vs, vf, vg, pf, pt, F, h1, h2, h3, h4, h5, ⟨af, rfl, h6⟩, h7, h8, h9, h10, h11, h12, h13⟩ := hR.ex
    refine ⟨_, rfl, a, C, dx, fs, _, rfl, h1, R.cl, R.nLens, h9, pf, rfl, .inr ⟨_, .inl h10.top⟩, v, rfl, fun p np => ?_⟩
    have s1 := same_new (o := .dK []) np
    have rest : ∀ (ad : Addr) (l : List (Nat × Nat)), (upd H p (.dK [])) ad = some (.dK (l.map nnKV)) → m = sumV l → tyV K "dict" (.ref ad) (upd H p (.dK [])) ∧ rValuesK (.ref ad) [] (upd H p (.dK [])) fun x H1 => rSumV [x] H1 Q := fun ad l had em => by
      refine ⟨.inr (.inr (.inl ⟨rfl, .inl ⟨_, had⟩⟩)), ad, _, rfl, rfl, had, fun p2 np2 => ?_⟩
      have s2 := same_new (o := valuesO p2 ad) np2
      refine ⟨p2, ad, _, l.map fun q => (q.2 : Int), rfl, upd_same, s2 _ _ had, ?_, ?_⟩
      · rw [List.map_map, List.map_map]
        rfl
      · rw [sumV_cast, ← em]
        exact q _ (s1.trans s2)
    rcases hv with ⟨r, ⟨ar, rfl, har⟩, em⟩ | ⟨rfl, em⟩
    · refine .inl ⟨valV (F.map (rKV fun q => V.ref q.1)) (rk r), DGet.t (s1 _ _ h10.top) (by rw [rk_vals]; exact s1 _ _ har), ?_⟩
      unfold D.onFrom at em
      cases hl : look d.lens r with
      | some l =>
        obtain ⟨ad, v1, v2, v3⟩ := lens_look h10 (r := r) (l := l) (by rw [h11]; exact hl)
        rw [v1]
        exact rest ad l (s1 _ _ v2) (by rw [em, hl]; rfl)
      | none =>
        rw [lens_look0 (by rw [h11]; exact hl)]
        exact rest p [] upd_same (by rw [em, hl]; rfl)
    · refine .inr ⟨rfl, _, s1 _ _ h10.top, fun z hz => ?_, rest p [] upd_same em⟩
      obtain ⟨y, hy, e⟩ := List.mem_map.mp hz
      refine ⟨y.1, by rw [← e], hG.hash (y.1, y.2.2) (by rw [← h11]; exact List.mem_map.mpr ⟨y, hy, rfl⟩)⟩
end
end Rg

namespace Rg
open PySem PySem.Spec PyProof.Rows L2
def D.total (d : D) : Nat := (d.own.map fun p => p.1 * p.2).sum
theorem any_beq (j : Nat) (l : List Nat) : (l.any fun y => Nat.beq y j) = l.any (Nat.beq j) := by
  congr 1
  funext y
  cases h : Nat.beq y j with
  | true => rw [Nat.eq_of_beq_eq_true h]; exact (Nat.beq_refl _).symm
  | false =>
    cases h2 : Nat.beq j y with
    | true => rw [Nat.eq_of_beq_eq_true h2, Nat.beq_refl] at h; cases h
    | false => rfl
section
variable {P : Program} {w : World} {K : PySem.W.Frag} {mg : Str → Option Value} {base : Heap} {C : Addr}
/-! ### average -/
theorem scAvg : FnScope ["self", "size", "many"] ["self"] (defScope (mS 5)) := ⟨rfl, rfl, rfl, by decide +kernel, rfl, by decide +kernel, by decide +kernel⟩
def spAvg (C : Addr) : Sp := fun vs H Q _ => ∃ (n : Nat) (a : Addr) (s : T) (d : D), vs = [.ref a] ∧ RtAt C H a s d ∧ GoodD n d ∧ ∀ p H', Same H H' → H' p = some (.tup [vn (d.total / Nat.gcd d.total d.many), vn (d.many / Nat.gcd d.total d.many)]) → Q (.ref p) H'
theorem hp_average (B : Bi mg) (R : Ro K C) (A : AtP K C "average" "Routes.average" (mS 5)) (hF : Has P w K mg base "fraction" 1 spFrac) (hM : HasP P w K mg base C "many" 1 (spMy C)) (hL : HasP P w K mg base C "lengths" 1 (spLs C)) :
    HasP P w K mg base C "average" 3 (spAvg C) := by
  refine hasP_of A scAvg (fun _ _ _ _ _ _ us hl => match us, hl with | [_], _ => rfl) (fun vs H Q E h => ?_) (fun fa cdv Ar outer s H vs Q E hr h => ?_)
  · obtain ⟨n, a, s, d, rfl, _⟩ := h
    rfl
  · obtain ⟨n, a, st, d, rfl, hR, hG, q⟩ := h
    refine ⟨_, pss_one (ps_ret (pe_c hF hr (pa_cons (pe_callB (cSum (K := K)) (by rfl) B.sum (by decide +kernel) (pa_cons
        (pe_lc (own := [("size", 1), ("many", 2)]) (g := gTup K 2 (gCons (gName 1) (gCons (gName 2) gNil))) (tt := tYes) (by rfl) scAvg.nd (pi_tup (pe_p hL R.cl hr (pv 0)))
          (blkOk_by (own := [("size", 1), ("many", 2)]) (N := ["self", "size", "many"]) (sc := defScope (mS 5)) (by decide +kernel))
          (fun _ _ _ _ _ => pg_tup (by rfl) (pgs_cons (pg_name (i := 1) scAvg.nd rfl (Or.inl rfl)) (pgs_cons (pg_name (i := 2) scAvg.nd rfl (Or.inl rfl)) pgs_nil)))
          (fun _ _ _ _ _ => pts_nil) (fun _ _ _ _ _ => pe_op op_mulN (pv 1) (pv 2))) pa_nil)) (pa_cons (pe_p hM R.cl hr (pv 0)) pa_nil)))), ?_⟩
    obtain ⟨dx, fs, _, _, _, _, _, _, h1, _⟩ := hR.ex
    refine ⟨_, rfl, a, dx, fs, rfl, h1, n, a, st, d, rfl, hR, hG, fun p zs H1 s1 pm hp hz => ⟨p, rfl, ⟨_, SqT.of hp⟩, fun D0 hD => ?_⟩⟩
    have hzl : zs.length ≤ 1000 := by
      have e := pm.length_eq
      rw [List.length_map] at e
      obtain ⟨l, hl⟩ := hG.hf
      obtain ⟨dx, fs, vs, vf, vg, pf, pt, F, h1, h2, h3, h4, h5, h6, h7, h8, h9, h10, h11, h12, h13⟩ := hR.ex
      obtain ⟨ad, v1, v2, v3⟩ := lens_look h10 (r := d.first) (l := l) (by rw [h11]; exact hl)
      have eown : d.own = l := by unfold D.own; rw [hl]; rfl
      rw [eown] at e
      omega
    have hbz : ∀ z ∈ zs, z.2.1 ≤ 4294967296 := fun z hz => by
      have := hG.bd z.2 (pm.mem_iff.mp (List.mem_map.mpr ⟨z, hz, rfl⟩))
      omega
    refine lc_gen (walk_tup (K := K) (a := p) (xs := zs.map fun z => V.ref z.1)) (by rw [List.length_map]; exact hzl) hD (fun i H x => x = vn ((zs.map fun z => z.2.1 * z.2.2).getD i 0)) (fun _ => true) (fun _ _ _ _ _ h => h) (fun H s => SqT.of (s _ _ hp))
      (fun i x H2 H3 Ky Kn hi s2 hy ky kn => ?_) (fun ys H2 s2 hD2 d2 => ?_)
    · obtain ⟨rfl, hx⟩ := hy
      rw [List.getElem?_map] at hx
      obtain ⟨z, hzi, rfl⟩ := Option.map_eq_some_iff.mp hx
      have hzm := List.mem_of_getElem? hzi
      refine g2 (s2 _ _ (hz z hzm)) ⟨rfl, yes_el ⟨_, rfl, _, rfl, z.2.1, z.2.2, rfl, rfl, hbz z hzm, ky rfl _ _ (Same.refl _) ?_⟩⟩
      rw [getD_of (x := z.2.1 * z.2.2) (by rw [List.getElem?_map, hzi]; rfl)]
      rfl
    · rw [range_yes, List.length_map] at d2
      have e : ys = (zs.map fun z => z.2.1 * z.2.2).map vn := by
        have h := range_get (zs.map fun z => z.2.1 * z.2.2) 0 vn
        rw [List.length_map] at h
        exact (pairedEq d2).trans h
      have eS : (zs.map fun z => z.2.1 * z.2.2).sum = d.total := by
        have h1 : (zs.map fun z => z.2.1 * z.2.2) = (zs.map (·.2)).map fun p => p.1 * p.2 := by rw [List.map_map]; rfl
        rw [h1]
        exact List.Perm.sum_nat (pm.map _)
      refine ⟨D0, (zs.map fun z => z.2.1 * z.2.2).map fun n : Nat => (n : Int), rfl, SqL.of (by rw [hD2, e]; exact congrArg (fun z => some (HO.lst z)) (rI_vals _).symm), ?_⟩
      rw [sum_cast, eS]
      have s12 := s1.trans s2
      refine ⟨_, rfl, a, dx, fs, rfl, s12 _ _ h1, n, a, st, d, rfl, hR.mono s12, hG, fun H4 s4 => ?_⟩
      exact ⟨d.total, d.many, rfl, hG.pos, hG.posb, fun p5 H5 s5 h5 => q p5 H5 (s12.trans (s4.trans s5)) h5⟩
/-! ### through, share -/
theorem scThr : FnScope ["self", "grouping", "row"] ["self", "grouping"] (defScope (mS 7)) := ⟨rfl, rfl, rfl, by decide +kernel, rfl, by decide +kernel, by decide +kernel⟩
theorem scShr : FnScope ["self", "grouping"] ["self", "grouping"] (defScope (mS 8)) := ⟨rfl, rfl, rfl, by decide +kernel, rfl, by decide +kernel, by decide +kernel⟩
def spThr (C : Addr) : Sp := fun vs H Q _ => ∃ (n : Nat) (a : Addr) (s : T) (d : D) (o : T) (v : V), vs = [.ref a, v] ∧ RtAt C H a s d ∧ GoodD n d ∧ TOk H o v ∧ s.reach.length = o.reach.length ∧ ∀ H', Same H H' → Q (vn (d.through o)) H'
theorem hm_through (R : Ro K C) (A : AtM K C "through" "Routes.through" (mS 7)) (hA : Has P w K mg base "check_alike" 12 spAlike) (hRe : Has P w K mg base "reaches" 11 spReaches) (hO : HasM P w K mg base C "on_from" 1 (spOn C)) :
    HasM P w K mg base C "through" 13 (spThr C) := by
  refine hasM_of A scThr (fun _ _ _ _ _ _ us hl => match us, hl with | [_, _], _ => rfl) (fun vs H Q E h => ?_) (fun fa cdv Ar outer s H vs Q E hr h => ?_)
  · obtain ⟨n, a, s, d, o, v, rfl, _⟩ := h
    rfl
  · obtain ⟨n, a, st, d, o, v, rfl, hR, hG, hT, hlen, q⟩ := h
    have hun := hr.units
    have hun1 : (Ar.deeper (envOfC "Routes.through" (defScope (mS 7)) s.heap.objs.size fa cdv)).units + 1 < cLine := Nat.lt_of_le_of_lt (Nat.add_le_add_left (by decide) _) hun
    refine ⟨_, pss_cons (ps_expr (pe_c hA hr (pa_cons (pe_tup (pa_cons (pe_fld (pv 0) rfl) (pa_cons (pv 1) pa_nil))) pa_nil)))
      (pss_cons (ps_set (i := 2) scThr.nd rfl (Or.inl rfl) (pe_c hRe hr (pa_cons (pv 1) pa_nil)))
      (pss_one (ps_ret (pe_op op_mulN (pe_dget2 hun1 (pe_fld (pv 0) rfl) (pv 2) pe_int ⟨by rfl, by rfl, by rfl, by rfl⟩) (pe_m hO R.cl hr (pv 0) (pa_cons (pv 2) pa_nil)))))), ?_⟩
    obtain ⟨dx, fs, vs, vf, vg, pf, pt, F, h1, h2, h3, h4, h5, h6, h7, h8, h9, h10, h11, h12, h13⟩ := hR.ex
    refine ⟨_, rfl, a, C, dx, fs, _, rfl, h1, R.cl, R.nStart, h3, _, rfl, (by show 2 ≤ sizeLine; decide), fun p0 n0 => ?_⟩
    have s0 := same_new (o := .tup [vs, v]) n0
    refine ⟨p0, vs, v, st, o, rfl, upd_same, h4.mono s0, hT.mono s0, hlen, fun H1 s1 => ?_⟩
    have s01 := s0.trans s1
    refine ⟨_, rfl, o, v, rfl, hT.1.mono s01, hT.2.1, hT.2.2, fun p2 H2 s2 h2r => ?_⟩
    have s02 := s01.trans s2
    refine ⟨_, rfl, a, C, dx, fs, _, rfl, s02 _ _ h1, R.cl, R.nTo, h12, pt, rfl, .inr ⟨_, .inl (s02 _ _ h13)⟩, _, rfl, _, DGet.t (s02 _ _ h13) (by rw [rk_vals]; exact h2r), ?_⟩
    rw [look_val]
    have e1 : ((look d.to o.reach).map vn).getD (V.int 0) = vn ((look d.to o.reach).getD 0) := by cases look d.to o.reach <;> rfl
    rw [e1]
    refine ⟨_, rfl, a, dx, fs, rfl, s02 _ _ h1, h2 _ (by decide), _, rfl, n, a, st, d, _, d.onFrom o.reach, rfl, hR.mono s02, hG, .inl ⟨o.reach, ⟨p2, rfl, h2r⟩, rfl⟩, fun H3 s3 => ?_⟩
    refine ⟨(look d.to o.reach).getD 0, d.onFrom o.reach, rfl, rfl, by have := hG.tob o.reach; omega, ?_⟩
    exact q H3 (s02.trans s3)
def spShr (C : Addr) : Sp := fun vs H Q _ => ∃ (n : Nat) (a : Addr) (s : T) (d : D) (o : T) (v : V), vs = [.ref a, v] ∧ RtAt C H a s d ∧ GoodD n d ∧ TOk H o v ∧ s.reach.length = o.reach.length ∧
  ∀ p H', Same H H' → H' p = some (.tup [vn (d.through o / Nat.gcd (d.through o) d.many), vn (d.many / Nat.gcd (d.through o) d.many)]) → Q (.ref p) H'
theorem hm_share (R : Ro K C) (A : AtM K C "share" "Routes.share" (mS 8)) (hF : Has P w K mg base "fraction" 1 spFrac) (hM : HasP P w K mg base C "many" 1 (spMy C)) (hT : HasM P w K mg base C "through" 13 (spThr C)) :
    HasM P w K mg base C "share" 14 (spShr C) := by
  refine hasM_of A scShr (fun _ _ _ _ _ _ us hl => match us, hl with | [_, _], _ => rfl) (fun vs H Q E h => ?_) (fun fa cdv Ar outer s H vs Q E hr h => ?_)
  · obtain ⟨n, a, s, d, o, v, rfl, _⟩ := h
    rfl
  · obtain ⟨n, a, st, d, o, v, rfl, hR, hG, hTo, hlen, q⟩ := h
    refine ⟨_, pss_one (ps_ret (pe_c hF hr (pa_cons (pe_m hT R.cl hr (pv 0) (pa_cons (pv 1) pa_nil)) (pa_cons (pe_p hM R.cl hr (pv 0)) pa_nil)))), ?_⟩
    obtain ⟨dx, fs, vs, vf, vg, pf, pt, F, h1, h2, _⟩ := hR.ex
    refine ⟨_, rfl, a, dx, fs, rfl, h1, h2 _ (by decide), _, rfl, n, a, st, d, o, v, rfl, hR, hG, hTo, hlen, fun H1 s1 => ?_⟩
    refine ⟨_, rfl, a, dx, fs, rfl, s1 _ _ h1, n, a, st, d, rfl, hR.mono s1, hG, fun H2 s2 => ?_⟩
    exact ⟨d.through o, d.many, rfl, hG.pos, hG.posb, fun p H3 s3 h3 => q p H3 (s1.trans (s2.trans s3)) h3⟩
/-! ### row_behind, beginning, in -/
theorem scBeh : FnScope ["self", "joins", "row", "join"] ["self", "joins"] (defScope (mS 10)) := ⟨rfl, rfl, rfl, by decide +kernel, rfl, by decide +kernel, by decide +kernel⟩
/-- a row, or None -/
def RowN (H : Hp) (o : Option (List Nat)) (v : V) : Prop := match o with
  | none => v = .non
  | some r => RowAt H r v
def spBeh (C : Addr) : Sp := fun vs H Q _ => ∃ (n : Nat) (a : Addr) (s : T) (d : D) (js : List Nat) (v : V), vs = [.ref a, v] ∧ RtAt C H a s d ∧ GoodD n d ∧ RowAt H js v ∧ ∀ u H', Same H H' → RowN H' (d.behind d.first js) u → Q u H'
theorem hm_behind (R : Ro K C) (A : AtM K C "row_behind" "Routes.row_behind" (mS 10)) (hW : Has P w K mg base "ways_on" 2 spWays) (hS : Has P w K mg base "stepped" 1 spStep) : HasM P w K mg base C "row_behind" 3 (spBeh C) := by
  refine hasM_of A scBeh (fun _ _ _ _ _ _ us hl => match us, hl with | [_, _], _ => rfl) (fun vs H Q E h => ?_) (fun fa cdv Ar outer s H vs Q E hr h => ?_)
  · obtain ⟨n, a, s, d, js, v, rfl, _⟩ := h
    rfl
  · obtain ⟨n, a, st, d, js, v, rfl, hR, hG, ⟨aj, rfl, hj⟩, q⟩ := h
    refine ⟨_, pss_cons (ps_set (i := 2) scBeh.nd rfl (Or.inl rfl) (pe_fld (pv 0) rfl)) (pss_cons (ps_for PassesOwn.never rfl (pi_tup (pv 1)) (pg_name (i := 3) scBeh.nd rfl (Or.inl rfl))
        (pss_cons (ps_if (pt_cmpR (opNotIn (K := K)) (pv 3) (pe_c hW hr (pa_cons (pv 2) (pa_cons (pe_fld (pv 0) rfl) pa_nil))) (by rfl)) (pss_one (ps_ret pe_non)) pss_nil)
        (pss_one (ps_set (i := 2) scBeh.nd rfl (Or.inl rfl) (pe_c hS hr (pa_cons (pv 2) (pa_cons (pv 3) pa_nil)))))))
      (pss_one (ps_ret (pv 2)))), ?_⟩
    obtain ⟨dx, fs, vs, vf, vg, pf, pt, F, h1, h2, h3, h4, h5, h6, h7, h8, h9, h10, h11, h12, h13⟩ := hR.ex
    refine ⟨_, rfl, a, C, dx, fs, _, rfl, h1, R.cl, R.nFirst, h5, ?_⟩
    refine ⟨_, rfl, aj, rfl, ⟨_, SqT.of hj⟩, ?_⟩
    refine for_it (walk_tup (K := K) (a := aj) (xs := rowV js)) (fun i σ H' => ∃ (r : List Nat) (u : V) (y3 : Option V), σ = [some (.ref a), some (.ref aj), some u, y3] ∧ Same H H' ∧ RowAt H' r u ∧ ROk n r ∧ d.behind d.first js = d.behind r (js.drop i))
      ⟨d.first, vf, none, rfl, Same.refl _, h6, hG.okf, rfl⟩ (fun i σ H' _ p => by obtain ⟨_, _, _, _, q1, _⟩ := p; exact SqT.of (q1 _ _ hj)) (fun i x σ H1 H2 hi p yv => ?_) (fun σ H1 p => ?_)
    · obtain ⟨rfl, hx⟩ := yv
      obtain ⟨r, u, y3, rfl, q1, q2, q3, q4⟩ := p
      obtain ⟨j, hj1, rfl⟩ := row_at hx
      have hij : i < js.length := (List.getElem?_eq_some_iff.mp hj1).1
      have edrop : js.drop i = j :: js.drop (i + 1) := by
        rw [List.drop_eq_getElem_cons hij]
        congr 1
        exact Option.some.inj ((List.getElem?_eq_getElem hij).symm.trans hj1)
      rw [edrop] at q4
      refine ⟨_, rfl, _, rfl, _, rfl, a, C, dx, fs, _, rfl, q1 _ _ h1, R.cl, R.nGoal, h7, n, r, d.goal, u, vg, rfl, q2, h8.mono q1, q3, hG.gl, hG.hn, fun pw H4 nw s4 h4 => ?_⟩
      refine ⟨pw, _, rfl, .inl (SqL.of h4), rfl, flat_row _, _, rfl, ?_⟩
      rw [inV_row, any_beq]
      have eb : d.behind r (j :: js.drop (i + 1)) = if (waysOn r d.goal).any (Nat.beq j) then d.behind (stepped r j) (js.drop (i + 1)) else none := rfl
      rw [eb] at q4
      cases hb : (waysOn r d.goal).any (Nat.beq j) with
      | false =>
        refine iteT ?_
        rw [hb, if_neg (by decide)] at q4
        exact q .non _ (q1.trans s4) (by rw [q4]; rfl)
      | true =>
        refine iteF ?_
        rw [hb, if_pos rfl] at q4
        obtain ⟨y, hy, ey⟩ := List.any_eq_true.mp hb
        have ejy : j = y := Nat.eq_of_beq_eq_true ey
        subst ejy
        have hjo := waysOn_mem hy
        obtain ⟨i0, rfl, _, _⟩ := openIn_mem hjo
        refine ⟨_, rfl, _, rfl, n, i0, r, u, rfl, q2.mono s4, q3, hG.hn, hjo, fun p5 H5 s5 h5 => ?_⟩
        exact ⟨stepped r (i0 + 1), .ref p5, _, rfl, q1.trans (s4.trans s5), ⟨p5, rfl, h5⟩, q3.step hjo, q4⟩
    · obtain ⟨r, u, y3, rfl, q1, q2, q3, q4⟩ := p
      rw [row_len, List.drop_length] at q4
      exact ⟨_, rfl, q u _ q1 (by rw [q4]; exact q2)⟩
theorem scBeg : FnScope ["self", "joins"] ["self", "joins"] (defScope (mS 11)) := ⟨rfl, rfl, rfl, by decide +kernel, rfl, by decide +kernel, by decide +kernel⟩
theorem scHas : FnScope ["self", "joins"] ["self", "joins"] (defScope (mS 13)) := ⟨rfl, rfl, rfl, by decide +kernel, rfl, by decide +kernel, by decide +kernel⟩
def spBeg (C : Addr) : Sp := fun vs H Q _ => ∃ (n : Nat) (a : Addr) (s : T) (d : D) (js : List Nat) (v : V), vs = [.ref a, v] ∧ RtAt C H a s d ∧ GoodD n d ∧ RowAt H js v ∧ ∀ H', Same H H' → Q (vn (d.beginning js)) H'
theorem hm_beginning (R : Ro K C) (A : AtM K C "beginning" "Routes.beginning" (mS 11)) (hB : HasM P w K mg base C "row_behind" 3 (spBeh C)) (hO : HasM P w K mg base C "on_from" 1 (spOn C)) : HasM P w K mg base C "beginning" 4 (spBeg C) := by
  refine hasM_of A scBeg (fun _ _ _ _ _ _ us hl => match us, hl with | [_, _], _ => rfl) (fun vs H Q E h => ?_) (fun fa cdv Ar outer s H vs Q E hr h => ?_)
  · obtain ⟨n, a, s, d, js, v, rfl, _⟩ := h
    rfl
  · obtain ⟨n, a, st, d, js, v, rfl, hR, hG, hj, q⟩ := h
    refine ⟨_, pss_one (ps_ret (pe_m hO R.cl hr (pv 0) (pa_cons (pe_m hB R.cl hr (pv 0) (pa_cons (pv 1) pa_nil)) pa_nil))), ?_⟩
    obtain ⟨dx, fs, vs, vf, vg, pf, pt, F, h1, h2, _⟩ := hR.ex
    refine ⟨_, rfl, a, dx, fs, rfl, h1, h2 _ (by decide), _, rfl, a, dx, fs, rfl, h1, h2 _ (by decide), _, rfl, n, a, st, d, js, v, rfl, hR, hG, hj, fun u H1 s1 hu => ?_⟩
    refine ⟨n, a, st, d, u, d.beginning js, rfl, hR.mono s1, hG, ?_, fun H2 s2 => q H2 (s1.trans s2)⟩
    unfold D.beginning
    cases hb : d.behind d.first js with
    | none => rw [hb] at hu; exact .inr ⟨hu, rfl⟩
    | some r => rw [hb] at hu; exact .inl ⟨r, hu, rfl⟩
def spHas (C : Addr) : Sp := fun vs H Q _ => ∃ (n : Nat) (a : Addr) (s : T) (d : D) (js : List Nat) (v : V), vs = [.ref a, v] ∧ RtAt C H a s d ∧ GoodD n d ∧ RowAt H js v ∧ ∀ H', Same H H' → Q (.bl (d.has js)) H'
theorem hm_has (R : Ro K C) (A : AtM K C "__contains__" "Routes.__contains__" (mS 13)) (hB : HasM P w K mg base C "row_behind" 3 (spBeh C)) : HasM P w K mg base C "__contains__" 4 (spHas C) := by
  refine hasM_of A scHas (fun _ _ _ _ _ _ us hl => match us, hl with | [_, _], _ => rfl) (fun vs H Q E h => ?_) (fun fa cdv Ar outer s H vs Q E hr h => ?_)
  · obtain ⟨n, a, s, d, js, v, rfl, _⟩ := h
    rfl
  · obtain ⟨n, a, st, d, js, v, rfl, hR, hG, hj, q⟩ := h
    refine ⟨_, pss_one (ps_ret (pe_cmpR (opEqD (K := K) hr.units) (pe_m hB R.cl hr (pv 0) (pa_cons (pv 1) pa_nil)) (pe_fld (pv 0) rfl) (nomark _))), ?_⟩
    obtain ⟨dx, fs, vs, vf, vg, pf, pt, F, h1, h2, h3, h4, h5, h6, h7, h8, h9, h10, h11, h12, h13⟩ := hR.ex
    refine ⟨_, rfl, a, dx, fs, rfl, h1, h2 _ (by decide), _, rfl, n, a, st, d, js, v, rfl, hR, hG, hj, fun u H1 s1 hu => ?_⟩
    refine ⟨_, rfl, a, C, dx, fs, _, rfl, s1 _ _ h1, R.cl, R.nGoal, h7, ?_⟩
    have hg := h8.mono s1
    unfold D.has at q
    cases hb : d.behind d.first js with
    | none =>
      rw [hb] at hu q
      obtain rfl : u = .non := hu
      exact ⟨.none, rowD d.goal, .non, hg.dp, rfl, rowD_shaped _, q _ s1⟩
    | some r =>
      rw [hb] at hu q
      have hu : RowAt H1 r u := hu
      refine ⟨rowD r, rowD d.goal, hu.dp, hg.dp, rowD_shaped _, rowD_shaped _, ?_⟩
      rw [rowD_eqv]
      exact q _ s1
end
end Rg

namespace Rg
open PySem PySem.Spec PyProof.Rows L2
/-- all stands, but p -/
def SameX (p : Addr) (H H' : Hp) : Prop := ∀ b u, b ≠ p → H b = some u → H' b = some u
theorem SameX.then {p : Addr} {H H1 H2 : Hp} (a : SameX p H H1) (b : Same H1 H2) : SameX p H H2 := fun c u hc e => b _ _ (a c u hc e)
theorem SameX.put {p : Addr} {H H1 : Hp} {o : HO} (a : SameX p H H1) : SameX p H (upd H1 p o) := fun c u hc e => by rw [upd_ne hc]; exact a c u hc e
theorem SameX.trans {p : Addr} {H H1 H2 : Hp} (a : SameX p H H1) (b : SameX p H1 H2) : SameX p H H2 := fun c u hc e => b c u hc (a c u hc e)
theorem SameX.tup {p : Addr} {H H' : Hp} (a : SameX p H H') {C dx : Addr} {fs : List (Str × V)} (hp : H p = some (.ins C dx fs)) : TupEx H H' := fun b xs e => a b _ (ne_of e hp (fun z => nomatch z)) e
def fsAll (a b c d e f g : V) : List (Str × V) := putF "own_to" g (putF "own_lengths" f (putF "own_rows" e (putF "own_goal" d (putF "own_first" c (putF "own_end" b (putF "own_start" a []))))))
theorem fs_start (a b c d e f g : V) : (fsAll a b c d e f g).lookup ("own_start" : Str) = some a := by
  unfold fsAll
  rw [lookup_putF, if_neg (by decide), lookup_putF, if_neg (by decide), lookup_putF, if_neg (by decide), lookup_putF, if_neg (by decide), lookup_putF, if_neg (by decide), lookup_putF, if_neg (by decide), lookup_putF, if_pos rfl]
theorem fs_first (a b c d e f g : V) : (fsAll a b c d e f g).lookup ("own_first" : Str) = some c := by
  unfold fsAll
  rw [lookup_putF, if_neg (by decide), lookup_putF, if_neg (by decide), lookup_putF, if_neg (by decide), lookup_putF, if_neg (by decide), lookup_putF, if_pos rfl]
theorem fs_goal (a b c d e f g : V) : (fsAll a b c d e f g).lookup ("own_goal" : Str) = some d := by
  unfold fsAll
  rw [lookup_putF, if_neg (by decide), lookup_putF, if_neg (by decide), lookup_putF, if_neg (by decide), lookup_putF, if_pos rfl]
theorem fs_lens (a b c d e f g : V) : (fsAll a b c d e f g).lookup ("own_lengths" : Str) = some f := by
  unfold fsAll
  rw [lookup_putF, if_neg (by decide), lookup_putF, if_pos rfl]
theorem fs_to (a b c d e f g : V) : (fsAll a b c d e f g).lookup ("own_to" : Str) = some g := by
  unfold fsAll
  rw [lookup_putF, if_pos rfl]
theorem fs_no (a b c d e f g : V) {m : Str} (h : m ∉ flds) : (fsAll a b c d e f g).lookup m = none := by
  unfold flds at h
  simp only [List.mem_cons, List.not_mem_nil, or_false, not_or] at h
  obtain ⟨h1, h2, h3, h4, h5, h6, h7⟩ := h
  unfold fsAll
  rw [lookup_putF, if_neg h7, lookup_putF, if_neg h6, lookup_putF, if_neg h5, lookup_putF, if_neg h4, lookup_putF, if_neg h3, lookup_putF, if_neg h2, lookup_putF, if_neg h1]
  rfl
theorem pl {f : Str} {y : V} {fs : List (Str × V)} {n : Nat} (h : fs.length < n) : (putF f y fs).length < n + 1 := by have := length_putF f y fs; omega
/-- two groupings between which the counted routes are well -/
structure Pre (n : Nat) (s t : T) : Prop where
  ls : s.reach.length = n
  lt : t.reach.length = n
  hn : n ≤ 100
  hs : s.ht < 8
  ht : t.ht < 8
  go : goes s t = true
  oks : ROk n s.reach
  bf : bfsOk 12 t.reach [s.reach] = true
  rows : ∀ r ∈ rowsOn s.reach t.reach, ROk n r
  ne : rowsOn s.reach t.reach ≠ []
  len : (rowsOn s.reach t.reach).length ≤ 1000
  run : (lensRun t.reach (rowsOn s.reach t.reach).reverse []).isSome = true
  cl : closed t.reach (rowsOn s.reach t.reach) = true
  good : GoodD n (mk s t)
section
variable {P : Program} {w : World} {K : PySem.W.Frag} {mg : Str → Option Value} {base : Heap} {C : Addr}
theorem scInit : FnScope ["self", "one", "other"] ["self", "one", "other"] (defScope (mS 0)) := ⟨rfl, rfl, rfl, by decide +kernel, rfl, by decide +kernel, by decide +kernel⟩
def spInit (C : Addr) : Sp := fun vs H Q _ => ∃ (n : Nat) (p dx : Addr) (x y : V) (s t : T), vs = [.ref p, x, y] ∧ H p = some (.ins C dx []) ∧ TAt H s x ∧ TAt H t y ∧ Pre n s t ∧ ∀ H', SameX p H H' → RtAt C H' p s (mk s t) → Q .non H'
theorem hm_init (R : Ro K C) (A : AtM K C "__init__" "Routes.__init__" (mS 0)) (hB : Has P w K mg base "check_behind" 15 (spLead .non)) (hT : Has P w K mg base "tidy" 8 (spTidy 8)) (hRe : Has P w K mg base "reaches" 11 spReaches)
    (hRo : Has P w K mg base "rows_on" 3 spRows) (hL : Has P w K mg base "lengths_on" 3 spLens) (hMt : Has P w K mg base "many_to" 3 spMany) : HasM P w K mg base C "__init__" 16 (spInit C) := by
  refine hasM_of A scInit (fun _ _ _ _ _ _ us hl => match us, hl with | [_, _, _], _ => rfl) (fun vs H Q E h => ?_) (fun fa cdv Ar outer s H vs Q E hr h => ?_)
  · obtain ⟨n, p, dx, x, y, s, t, rfl, _⟩ := h
    rfl
  · obtain ⟨n, p, dx, x, y, st, t, rfl, hp, hx, hy, Z, q⟩ := h
    refine ⟨_, pss_cons (ps_expr (pe_c hB hr (pa_cons (pv 1) (pa_cons (pv 2) pa_nil))))
      (pss_cons (ps_asg (pe_tup (pa_cons (pe_c hT hr (pa_cons (pv 1) pa_nil)) (pa_cons (pe_c hT hr (pa_cons (pv 2) pa_nil)) pa_nil))) (pg_tup (by rfl) (pgs_cons (pg_fld (pv 0)) (pgs_cons (pg_fld (pv 0)) pgs_nil))))
      (pss_cons (ps_asg (pe_tup (pa_cons (pe_c hRe hr (pa_cons (pv 1) pa_nil)) (pa_cons (pe_c hRe hr (pa_cons (pv 2) pa_nil)) pa_nil))) (pg_tup (by rfl) (pgs_cons (pg_fld (pv 0)) (pgs_cons (pg_fld (pv 0)) pgs_nil))))
      (pss_cons (ps_fld (pv 0) (pe_c hRo hr (pa_cons (pe_fld (pv 0) rfl) (pa_cons (pe_fld (pv 0) rfl) pa_nil))) rfl)
      (pss_cons (ps_fld (pv 0) (pe_c hL hr (pa_cons (pe_fld (pv 0) rfl) (pa_cons (pe_fld (pv 0) rfl) pa_nil))) rfl)
      (pss_one (ps_fld (pv 0) (pe_c hMt hr (pa_cons (pe_fld (pv 0) rfl) (pa_cons (pe_fld (pv 0) rfl) pa_nil))) rfl)))))), ?_⟩
    have ls100 : st.reach.length ≤ 100 := by rw [Z.ls]; exact Z.hn
    have lt100 : t.reach.length ≤ 100 := by rw [Z.lt]; exact Z.hn
    refine ⟨_, rfl, _, rfl, x, y, st, t, rfl, ⟨hx, Z.hs, ls100⟩, ⟨hy, Z.ht, lt100⟩, by rw [Z.ls, Z.lt], Z.go, fun H1 s1 => ?_⟩
    -- tidy
    refine ⟨_, rfl, st, x, rfl, hx.mono s1, Z.hs, fun u1 H2 s2 hu1 => ?_⟩
    refine ⟨_, rfl, t, y, rfl, hy.mono (s1.trans s2), Z.ht, fun u2 H3 s3 hu2 => ⟨by show 2 ≤ sizeLine; decide, fun p4 n4 => ?_⟩⟩
    have s4 := same_new (o := .tup [u1, u2]) n4
    have s13 : Same H H3 := s1.trans (s2.trans s3)
    have s14 : Same H (upd H3 p4 (.tup [u1, u2])) := s13.trans s4
    have t4 : (upd H3 p4 (.tup [u1, u2])) p4 = some (.tup [u1, u2]) := upd_same
    have hu14 : TAt (upd H3 p4 (.tup [u1, u2])) st u1 := (hu1.mono s3).mono s4
    have hp4 := s14 _ _ hp
    generalize (upd H3 p4 (.tup [u1, u2])) = H4 at s4 s14 t4 hu14 hp4
    refine ⟨p4, _, rfl, SqT.of t4, rfl, _, _, rfl, ?_⟩
    refine ⟨_, rfl, p, C, dx, [], rfl, hp4, R.cl, R.nStart, by show 0 < 1000; decide, ?_⟩
    refine ⟨_, _, rfl, ?_⟩
    refine ⟨_, rfl, p, C, dx, _, rfl, upd_same, R.cl, R.nEnd, Nat.lt_of_lt_of_le (pl (n := 1) (by decide)) (by decide), rfl, ?_⟩
    have x14 : SameX p H (upd (upd H4 p (.ins C dx (putF "own_start" u1 []))) p (.ins C dx (putF "own_end" u2 (putF "own_start" u1 [])))) := SameX.put (SameX.put fun b u _ e => s14 b u e)
    have e45 : TupEx H4 (upd (upd H4 p (.ins C dx (putF "own_start" u1 []))) p (.ins C dx (putF "own_end" u2 (putF "own_start" u1 [])))) := SameX.tup (SameX.put (SameX.put fun b u _ e => e)) hp4
    have hp5 : (upd (upd H4 p (.ins C dx (putF "own_start" u1 []))) p (.ins C dx (putF "own_end" u2 (putF "own_start" u1 [])))) p = some (.ins C dx (putF "own_end" u2 (putF "own_start" u1 []))) := upd_same
    generalize (upd (upd H4 p (.ins C dx (putF "own_start" u1 []))) p (.ins C dx (putF "own_end" u2 (putF "own_start" u1 [])))) = H5 at x14 e45 hp5
    have hu15 := hu14.tup e45
    have hT5 := x14.tup hp
    -- reaches
    refine ⟨_, rfl, st, x, rfl, hx.tup hT5, Z.hs, ls100, fun pa H6 s6 ha6 => ?_⟩
    refine ⟨_, rfl, t, y, rfl, (hy.tup hT5).mono s6, Z.ht, lt100, fun pb H7 s7 hb7 => ⟨by show 2 ≤ sizeLine; decide, fun p8 n8 => ?_⟩⟩
    have s8 := same_new (o := .tup [V.ref pa, V.ref pb]) n8
    have s58 : Same H5 (upd H7 p8 (.tup [V.ref pa, V.ref pb])) := s6.trans (s7.trans s8)
    have t8 : (upd H7 p8 (.tup [V.ref pa, V.ref pb])) p8 = some (.tup [V.ref pa, V.ref pb]) := upd_same
    have ha8 := s8 _ _ (s7 _ _ ha6)
    have hb8 := s8 _ _ hb7
    have hp8 := s58 _ _ hp5
    generalize (upd H7 p8 (.tup [V.ref pa, V.ref pb])) = H8 at s8 s58 t8 ha8 hb8 hp8
    refine ⟨p8, _, rfl, SqT.of t8, rfl, _, _, rfl, ?_⟩
    refine ⟨_, rfl, p, C, dx, _, rfl, hp8, R.cl, R.nFirst, Nat.lt_of_lt_of_le (pl (pl (n := 1) (by decide))) (by decide), ?_⟩
    refine ⟨_, _, rfl, ?_⟩
    refine ⟨_, rfl, p, C, dx, _, rfl, upd_same, R.cl, R.nGoal, Nat.lt_of_lt_of_le (pl (pl (pl (n := 1) (by decide)))) (by decide), rfl, ?_⟩
    have x59 : SameX p H (upd (upd H8 p (.ins C dx (putF "own_first" (V.ref pa) (putF "own_end" u2 (putF "own_start" u1 []))))) p (.ins C dx (putF "own_goal" (V.ref pb) (putF "own_first" (V.ref pa) (putF "own_end" u2 (putF "own_start" u1 [])))))) := SameX.put (SameX.put (x14.then s58))
    have e89 : TupEx H8 (upd (upd H8 p (.ins C dx (putF "own_first" (V.ref pa) (putF "own_end" u2 (putF "own_start" u1 []))))) p (.ins C dx (putF "own_goal" (V.ref pb) (putF "own_first" (V.ref pa) (putF "own_end" u2 (putF "own_start" u1 [])))))) := SameX.tup (SameX.put (SameX.put fun b u _ e => e)) hp8
    have hp9 : (upd (upd H8 p (.ins C dx (putF "own_first" (V.ref pa) (putF "own_end" u2 (putF "own_start" u1 []))))) p (.ins C dx (putF "own_goal" (V.ref pb) (putF "own_first" (V.ref pa) (putF "own_end" u2 (putF "own_start" u1 [])))))) p = some (.ins C dx (putF "own_goal" (V.ref pb) (putF "own_first" (V.ref pa) (putF "own_end" u2 (putF "own_start" u1 []))))) := upd_same
    generalize (upd (upd H8 p (.ins C dx (putF "own_first" (V.ref pa) (putF "own_end" u2 (putF "own_start" u1 []))))) p (.ins C dx (putF "own_goal" (V.ref pb) (putF "own_first" (V.ref pa) (putF "own_end" u2 (putF "own_start" u1 [])))))) = H9 at x59 e89 hp9
    have hu19 := (hu15.mono s58).tup e89
    have ha9 : RowAt H9 st.reach (.ref pa) := ⟨pa, rfl, e89 _ _ ha8⟩
    have hb9 : RowAt H9 t.reach (.ref pb) := ⟨pb, rfl, e89 _ _ hb8⟩
    -- rows
    have gF : (putF "own_goal" (V.ref pb) (putF "own_first" (V.ref pa) (putF "own_end" u2 (putF "own_start" u1 [])))).lookup ("own_first" : Str) = some (V.ref pa) := by rw [lookup_putF, if_neg (by decide), lookup_putF, if_pos rfl]
    have gG : (putF "own_goal" (V.ref pb) (putF "own_first" (V.ref pa) (putF "own_end" u2 (putF "own_start" u1 [])))).lookup ("own_goal" : Str) = some (V.ref pb) := by rw [lookup_putF, if_pos rfl]
    have lG : (putF "own_goal" (V.ref pb) (putF "own_first" (V.ref pa) (putF "own_end" u2 (putF "own_start" u1 [])))).length < 5 := pl (pl (pl (pl (n := 1) (by decide))))
    have efs : ∀ a b c, fsAll u1 u2 (V.ref pa) (V.ref pb) a b c = putF "own_to" c (putF "own_lengths" b (putF "own_rows" a (putF "own_goal" (V.ref pb) (putF "own_first" (V.ref pa) (putF "own_end" u2 (putF "own_start" u1 [])))))) := fun _ _ _ => rfl
    generalize (putF "own_goal" (V.ref pb) (putF "own_first" (V.ref pa) (putF "own_end" u2 (putF "own_start" u1 [])))) = fs4 at hp9 gF gG lG efs
    refine ⟨_, rfl, p, C, dx, fs4, _, rfl, hp9, R.cl, R.nFirst, gF, _, rfl, p, C, dx, fs4, _, rfl, hp9, R.cl, R.nGoal, gG, n, st.reach, t.reach, _, _, rfl, ha9, hb9, Z.oks, Z.lt, Z.hn, Z.bf, fun pr xr H10 s10 hr10 d10 => ?_⟩
    have hp10 := s10 _ _ hp9
    have npr : pr ≠ p := ne_of hr10 hp10 (fun z => nomatch z)
    refine ⟨_, rfl, p, C, dx, fs4, rfl, hp10, R.cl, R.nRows, by omega, ?_⟩
    have lR := pl (f := "own_rows") (y := V.ref pr) lG
    have e1011 : TupEx H10 (upd H10 p (.ins C dx (putF "own_rows" (V.ref pr) fs4))) := SameX.tup (SameX.put fun b u _ e => e) hp10
    have hr11 : (upd H10 p (.ins C dx (putF "own_rows" (V.ref pr) fs4))) pr = some (.lst xr) := by rw [upd_ne npr]; exact hr10
    have d11 := pairedMap (fun _ _ h => h.tup e1011) d10
    have x11 : SameX p H (upd H10 p (.ins C dx (putF "own_rows" (V.ref pr) fs4))) := SameX.put (x59.then s10)
    have hp11 : (upd H10 p (.ins C dx (putF "own_rows" (V.ref pr) fs4))) p = some (.ins C dx (putF "own_rows" (V.ref pr) fs4)) := upd_same
    have hu1B := (hu19.mono s10).tup e1011
    have haB := (ha9.mono s10).tup e1011
    have hbB := (hb9.mono s10).tup e1011
    generalize (upd H10 p (.ins C dx (putF "own_rows" (V.ref pr) fs4))) = H11 at e1011 hr11 d11 x11 hp11 hu1B haB hbB
    have gR : (putF "own_rows" (V.ref pr) fs4).lookup ("own_rows" : Str) = some (V.ref pr) := by rw [lookup_putF, if_pos rfl]
    have gG2 : (putF "own_rows" (V.ref pr) fs4).lookup ("own_goal" : Str) = some (V.ref pb) := by rw [lookup_putF, if_neg (by decide)]; exact gG
    -- lengths
    refine ⟨_, rfl, p, C, dx, _, _, rfl, hp11, R.cl, R.nRows, gR, _, rfl, p, C, dx, _, _, rfl, hp11, R.cl, R.nGoal, gG2, n, rowsOn st.reach t.reach, t.reach, pr, xr, _, rfl, hr11, d11, hbB, Z.rows, Z.lt, Z.hn, Z.len, Z.run, fun pf F H12 s12 hL12 eF => ?_⟩
    have hp12 := s12 _ _ hp11
    refine ⟨_, rfl, p, C, dx, _, rfl, hp12, R.cl, R.nLens, by omega, ?_⟩
    have lL := pl (f := "own_lengths") (y := V.ref pf) lR
    have e13 : TupEx H12 (upd H12 p (.ins C dx (putF "own_lengths" (V.ref pf) (putF "own_rows" (V.ref pr) fs4)))) := SameX.tup (SameX.put fun b u _ e => e) hp12
    have x13' : SameX p H12 (upd H12 p (.ins C dx (putF "own_lengths" (V.ref pf) (putF "own_rows" (V.ref pr) fs4)))) := SameX.put fun b u _ e => e
    have x13 : SameX p H (upd H12 p (.ins C dx (putF "own_lengths" (V.ref pf) (putF "own_rows" (V.ref pr) fs4)))) := (x11.then s12).trans x13'
    have hp13 : (upd H12 p (.ins C dx (putF "own_lengths" (V.ref pf) (putF "own_rows" (V.ref pr) fs4)))) p = some (.ins C dx (putF "own_lengths" (V.ref pf) (putF "own_rows" (V.ref pr) fs4))) := upd_same
    have lensX : ∀ {Ha Hb : Hp}, Ha p = some (.ins C dx (putF "own_rows" (V.ref pr) fs4)) ∨ Ha p = some (.ins C dx (putF "own_lengths" (V.ref pf) (putF "own_rows" (V.ref pr) fs4))) → SameX p Ha Hb → LensAt Ha pf F → LensAt Hb pf F := fun {Ha Hb} hpa sx hl => by
      have nn : ∀ {b : Addr} {u : HO}, Ha b = some u → (∀ C dx fs, u ≠ .ins C dx fs) → b ≠ p := fun {b u} e hu z => by
        rw [z] at e
        rcases hpa with h | h
        · rw [h] at e; exact hu _ _ _ (Option.some.inj e).symm
        · rw [h] at e; exact hu _ _ _ (Option.some.inj e).symm
      exact ⟨sx _ _ (nn hl.top fun _ _ _ z => nomatch z) hl.top, fun z hz => ⟨sx _ _ (nn (hl.own z hz).1 fun _ _ _ z => nomatch z) (hl.own z hz).1, (hl.own z hz).2⟩⟩
    have hL13 := lensX (.inl hp12) x13' hL12
    have hr13 : (upd H12 p (.ins C dx (putF "own_lengths" (V.ref pf) (putF "own_rows" (V.ref pr) fs4)))) pr = some (.lst xr) := by rw [upd_ne npr]; exact s12 _ _ hr11
    have d13 := pairedMap (fun _ _ h => (h.mono s12).tup e13) d11
    have hu1D := (hu1B.mono s12).tup e13
    have haD := (haB.mono s12).tup e13
    have hbD := (hbB.mono s12).tup e13
    generalize (upd H12 p (.ins C dx (putF "own_lengths" (V.ref pf) (putF "own_rows" (V.ref pr) fs4)))) = H13 at e13 x13' x13 hp13 hL13 hr13 d13 hu1D haD hbD
    have gR2 : (putF "own_lengths" (V.ref pf) (putF "own_rows" (V.ref pr) fs4)).lookup ("own_rows" : Str) = some (V.ref pr) := by rw [lookup_putF, if_neg (by decide)]; exact gR
    have gG3 : (putF "own_lengths" (V.ref pf) (putF "own_rows" (V.ref pr) fs4)).lookup ("own_goal" : Str) = some (V.ref pb) := by rw [lookup_putF, if_neg (by decide)]; exact gG2
    -- to
    refine ⟨_, rfl, p, C, dx, _, _, rfl, hp13, R.cl, R.nRows, gR2, _, rfl, p, C, dx, _, _, rfl, hp13, R.cl, R.nGoal, gG3, n, rowsOn st.reach t.reach, t.reach, pr, xr, _, rfl, hr13, d13, hbD, Z.rows, Z.lt, Z.hn, Z.len, Z.ne, Z.cl, fun pt H14 s14' ht14 => ?_⟩
    have hp14 := s14' _ _ hp13
    refine ⟨_, rfl, p, C, dx, _, rfl, hp14, R.cl, R.nTo, by omega, ?_⟩
    have eAll := efs (V.ref pr) (V.ref pf) (V.ref pt)
    have x15' : SameX p H14 (upd H14 p (.ins C dx (fsAll u1 u2 (V.ref pa) (V.ref pb) (V.ref pr) (V.ref pf) (V.ref pt)))) := SameX.put fun b u _ e => e
    have e15 := x15'.tup hp14
    have npt : pt ≠ p := ne_of ht14 hp14 (fun z => nomatch z)
    rw [← eAll]
    refine q _ ((x13.then s14').trans x15') ⟨dx, _, u1, V.ref pa, V.ref pb, pf, pt, F, upd_same, ?_⟩
    refine ⟨fun m hm => fs_no _ _ _ _ _ _ _ hm, fs_start _ _ _ _ _ _ _, ⟨(hu1D.mono s14').tup e15, Z.hs, ls100⟩, fs_first _ _ _ _ _ _ _, ?_, fs_goal _ _ _ _ _ _ _, ?_, fs_lens _ _ _ _ _ _ _, ?_, eF, fs_to _ _ _ _ _ _ _, ?_⟩
    · exact (haD.mono s14').tup e15
    · exact (hbD.mono s14').tup e15
    · exact lensX (.inr hp14) x15' (hL13.mono s14')
    · rw [upd_ne npt]
      exact ht14
end
end Rg

namespace Rg
open PySem PySem.Spec PyProof.Rows L2
section
variable {P : Program} {w : World} {K : PySem.W.Frag} {mg : Str → Option Value} {base : Heap}
/-! ### _law_fraction -/
theorem scLFrac : FnScope ["_law_top", "_law_bottom", "_law_near", "_law_far"] ["_law_top", "_law_bottom"] (defScope (topS 33)) := ⟨rfl, rfl, rfl, by decide +kernel, rfl, by decide +kernel, by decide +kernel⟩
theorem has_lfrac (B : Bi mg) (A : At K mg "_law_fraction" (topS 33)) : Has P w K mg base "_law_fraction" 1 spFrac := by
  refine has_of A scLFrac (fun _ _ _ _ _ _ us hl => match us, hl with | [_, _], _ => rfl) (fun vs H Q E h => ?_) (fun f cdv A outer s H vs Q E hr h => ?_)
  · obtain ⟨a, b, rfl, _⟩ := h
    rfl
  · obtain ⟨a, b, rfl, hb, hb2, q⟩ := h
    refine ⟨_, pss_cons (ps_par (i := 2) (j := 3) rfl scLFrac.nd rfl rfl (by decide) rfl rfl (pa_cons (pe_callB call_abs (by rfl) B.abs (by decide +kernel) (pa_cons (pv 0) pa_nil)) (pa_cons (pv 1) pa_nil)) (by rfl))
      (pss_cons (ps_while PassesOwn.never (pt_cmpR op_gt (pv 2) pe_int (nomark _)) (pss_one (ps_par (i := 2) (j := 3) rfl scLFrac.nd rfl rfl (by decide) rfl rfl (pa_cons (pe_op op_mod (pv 3) (pv 2)) (pa_cons (pv 2) pa_nil)) (by rfl))))
      (pss_one (ps_ret (pe_tup (pa_cons (pe_op op_fdiv (pv 0) (pv 3)) (pa_cons (pe_op op_fdiv (pv 1) (pv 3)) pa_nil)))))), ?_⟩
    refine ⟨_, rfl, (a : Int), rfl, _, rfl, _, _, rfl, ?_⟩
    rw [if_neg (by omega)]
    refine ⟨fun m σ H' => ∃ x y : Nat, σ = [some (vn a), some (vn b), some (vn x), some (vn y)] ∧ Nat.gcd x y = Nat.gcd a b ∧ x = m ∧ H' = H, ⟨a, a, b, rfl, rfl, rfl, rfl⟩, fun m σ H1 hW => ?_⟩
    obtain ⟨x, y, rfl, hg, rfl, rfl⟩ := hW
    refine ⟨_, rfl, (x : Int), 0, rfl, rfl, _, rfl, ite2 (fun c => ?_) (fun c => ?_)⟩
    · have hx : (0 : Int) < (x : Int) := of_decide_eq_true c
      have hx' : 0 < x := by omega
      refine ⟨fun σ' H' => ∃ x2 y2 : Nat, σ' = [some (vn a), some (vn b), some (vn x2), some (vn y2)] ∧ Nat.gcd x2 y2 = Nat.gcd a b ∧ x2 < x ∧ H' = H1, fun σ' H' h => ?_, ?_⟩
      · obtain ⟨x2, y2, e, h1, h2, h3⟩ := h
        exact ⟨x2, h2, x2, y2, e, h1, rfl, h3⟩
      · refine ⟨_, rfl, _, rfl, (y : Int), (x : Int), rfl, rfl, hx, _, rfl, _, _, rfl, ?_⟩
        refine ⟨y % x, x, rfl, ?_, Nat.mod_lt _ hx', rfl⟩
        rw [← hg, Nat.gcd_rec x y]
    · have hx : ¬ (0 : Int) < (x : Int) := of_decide_eq_false (Bool.eq_false_iff.mpr c)
      have hx0 : x = 0 := by omega
      subst hx0
      have hy : y = Nat.gcd a b := by rw [← hg, Nat.gcd_zero_left]
      have hpos : 0 < Nat.gcd a b := Nat.gcd_pos_of_pos_right a hb
      have hle : Nat.gcd a b ≤ b := Nat.gcd_le_right a hb
      refine ⟨_, rfl, _, rfl, (a : Int), (y : Int), rfl, rfl, ⟨by omega, by omega⟩, _, rfl, _, rfl, (b : Int), (y : Int), rfl, rfl, ⟨by omega, by omega⟩, (by show 2 ≤ sizeLine; decide), fun p np => ?_⟩
      refine q p _ (same_new np) ?_
      rw [upd_same, hy]
      rfl
/-! ### _law_ends -/
theorem scLEnds : FnScope ["_law_tree_so", "_law_one_so", "_law_two_so"] ["_law_tree_so"] (defScope (topS 35)) := ⟨rfl, rfl, rfl, by decide +kernel, rfl, by decide +kernel, by decide +kernel⟩
theorem has_lends (B : Bi mg) (A : At K mg "_law_ends" (topS 35)) : Has P w K mg base "_law_ends" 1 spEnds := by
  refine has_of A scLEnds (fun _ _ _ _ _ _ us hl => match us, hl with | [_], _ => rfl) (fun vs H Q E h => ?_) (fun f cdv A outer s H vs Q E hr h => ?_)
  · obtain ⟨t, v, rfl, _⟩ := h
    rfl
  · obtain ⟨t, v, rfl, ht, q⟩ := h
    refine ⟨_, pss_cons (ps_par (i := 1) (j := 2) rfl scLEnds.nd rfl rfl (by decide) rfl rfl (pa_cons (pv 0) (pa_cons (pv 0) pa_nil)) (by rfl))
      (pss_cons (ps_while PassesOwn.never (pt_val (pe_callB (cIsi (K := K)) (by rfl) B.isinstance PyProof.Rows.boot_isinstance (pa_cons (pv 1) (pa_cons (pe_bltn (v := .ty "tuple") (by rfl) B.tuple (by decide +kernel) rfl) pa_nil)))) (pss_one (ps_set (i := 1) scLEnds.nd rfl (.inl rfl) (pe_ix ix_tup (pv 1) pe_int (fun _ _ => rfl)))))
      (pss_cons (ps_while PassesOwn.never (pt_val (pe_callB (cIsi (K := K)) (by rfl) B.isinstance PyProof.Rows.boot_isinstance (pa_cons (pv 2) (pa_cons (pe_bltn (v := .ty "tuple") (by rfl) B.tuple (by decide +kernel) rfl) pa_nil)))) (pss_one (ps_set (i := 2) scLEnds.nd rfl (.inl rfl) (pe_ix ix_tup (pv 2) pe_int (fun _ _ => rfl)))))
      (pss_one (ps_ret (pe_tup (pa_cons (pv 1) (pa_cons (pv 2) pa_nil))))))), ?_⟩
    refine ⟨v, rfl, v, rfl, v, v, rfl, ?_⟩
    refine ⟨fun m σ H' => ∃ t1 v1, σ = [some v, some v1, some v] ∧ TAt H' t1 v1 ∧ t1.ht = m ∧ t1.fst = t.fst ∧ H' = H, ⟨_, t, v, rfl, ht, rfl, rfl, rfl⟩, fun m σ H1 hW => ?_⟩
    obtain ⟨t1, v1, rfl, ht1, rfl, hf, rfl⟩ := hW
    cases t1 with
    | node l r =>
      refine ⟨v1, rfl, v1, .ty "tuple", _, _, true, rfl, .ty _, ty_tup ht1, kit_ty (by decide +kernel), _, rfl, iteT ?_⟩
      obtain ⟨a, x, y, rfl, h1, h2, h3⟩ := ht1
      refine ⟨fun σ' H' => ∃ t1 v1, σ' = [some v, some v1, some v] ∧ TAt H' t1 v1 ∧ t1.ht < (T.node l r).ht ∧ t1.fst = t.fst ∧ H' = H1, fun σ' H' hN' => ?_, ?_⟩
      · obtain ⟨t2, v2, e, h4, h5, h6, h7⟩ := hN'
        exact ⟨_, h5, t2, v2, e, h4, rfl, h6, h7⟩
      · refine ⟨_, rfl, a, _, 0, x, rfl, rfl, SqT.of h1, atI_nat (j := 0) rfl, ?_⟩
        exact ⟨l, x, rfl, h2, by show l.ht < max l.ht r.ht + 1; omega, hf, rfl⟩
    | leaf n =>
      refine ⟨v1, rfl, v1, .ty "tuple", _, _, false, rfl, .ty _, ty_leaf ht1, kit_ty (by decide +kernel), _, rfl, iteF ?_⟩
      obtain rfl : v1 = vn n := ht1
      refine ⟨fun m σ H' => ∃ t1 v1, σ = [some v, some (vn n), some v1] ∧ TAt H' t1 v1 ∧ t1.ht = m ∧ t1.lst = t.lst ∧ H' = H1, ⟨_, t, v, rfl, ht, rfl, rfl, rfl⟩, fun m σ H3 hW => ?_⟩
      obtain ⟨t1, v1, rfl, ht1, rfl, hl, rfl⟩ := hW
      cases t1 with
      | node l r =>
        refine ⟨v1, rfl, v1, .ty "tuple", _, _, true, rfl, .ty _, ty_tup ht1, kit_ty (by decide +kernel), _, rfl, iteT ?_⟩
        obtain ⟨a, x, y, rfl, h1, h2, h3⟩ := ht1
        refine ⟨fun σ' H' => ∃ t1 v1, σ' = [some v, some (vn n), some v1] ∧ TAt H' t1 v1 ∧ t1.ht < (T.node l r).ht ∧ t1.lst = t.lst ∧ H' = H3, fun σ' H' hN' => ?_, ?_⟩
        · obtain ⟨t2, v2, e, h4, h5, h6, h7⟩ := hN'
          exact ⟨_, h5, t2, v2, e, h4, rfl, h6, h7⟩
        · refine ⟨_, rfl, a, _, 1, y, rfl, rfl, SqT.of h1, atI_nat (j := 1) rfl, ?_⟩
          exact ⟨r, y, rfl, h3, by show r.ht < max l.ht r.ht + 1; omega, hl, rfl⟩
      | leaf n2 =>
        refine ⟨v1, rfl, v1, .ty "tuple", _, _, false, rfl, .ty _, ty_leaf ht1, kit_ty (by decide +kernel), _, rfl, iteF ?_⟩
        obtain rfl : v1 = vn n2 := ht1
        refine ⟨_, rfl, _, rfl, (by show 2 ≤ sizeLine; decide), fun p hp => ?_⟩
        refine q p _ (same_new hp) ?_
        have e1 : n = t.fst := hf
        have e2 : n2 = t.lst := hl
        rw [upd_same, ← e1, ← e2]
/-! ### _law_pairs -/
theorem scLPairs : FnScope ["_law_tree_so", "_law_first_so", "_law_cut_so"] ["_law_tree_so"] (defScope (topS 36)) := ⟨rfl, rfl, rfl, by decide +kernel, rfl, by decide +kernel, by decide +kernel⟩
theorem has_lpairs (B : Bi mg) (A : At K mg "_law_pairs" (topS 36)) (hE : Has P w K mg base "_law_ends" 1 spEnds) : ∀ d, Has P w K mg base "_law_pairs" (d + 1) (spSpans d)
  | 0 => has_no A (ps := ["_law_tree_so"]) (fun _ _ _ _ _ _ us hl => match us, hl with | [_], _ => rfl) fun vs H Q E h => by
    obtain ⟨t, v, _, _, h, _⟩ := h
    exact absurd h (Nat.not_lt_zero _)
  | d + 1 => by
    have hS := has_lpairs B A hE d
    refine has_of A scLPairs (fun _ _ _ _ _ _ us hl => match us, hl with | [_], _ => rfl) (fun vs H Q E h => ?_) (fun f cdv A outer s H vs Q E hr h => ?_)
    · obtain ⟨t, v, rfl, _⟩ := h
      rfl
    · obtain ⟨t, v, rfl, ht, hd, hl, q⟩ := h
      refine ⟨_, pss_cons (ps_if (pt_not (pt_val (pe_callB (cIsi (K := K)) (by rfl) B.isinstance PyProof.Rows.boot_isinstance (pa_cons (pv 0) (pa_cons (pe_bltn (v := .ty "tuple") (by rfl) B.tuple (by decide +kernel) rfl) pa_nil))))) (pss_one (ps_ret (pe_lst pa_nil))) pss_nil)
        (pss_cons (ps_asg (pe_c hE hr (pa_cons (pe_ix ix_tup (pv 0) pe_int (fun _ _ => rfl)) pa_nil) (by omega)) (pg_tup (by rfl) (pgs_cons (pg_name (i := 1) scLPairs.nd rfl (.inl rfl)) (pgs_cons (pg_name (i := 2) scLPairs.nd rfl (.inl rfl)) pgs_nil))))
        (pss_one (ps_ret (pe_op op_cat (pe_op op_cat (pe_c hS hr (pa_cons (pe_ix ix_tup (pv 0) pe_int (fun _ _ => rfl)) pa_nil) (by omega))
          (pe_lst (pa_cons (pe_tup (pa_cons (pv 1) (pa_cons (pv 2) (pa_cons (pe_ix ix_tup (pe_c hE hr (pa_cons (pe_ix ix_tup (pv 0) pe_int (fun _ _ => rfl)) pa_nil) (by omega)) pe_int (fun _ _ => rfl)) pa_nil)))) pa_nil)))
          (pe_c hS hr (pa_cons (pe_ix ix_tup (pv 0) pe_int (fun _ _ => rfl)) pa_nil) (by omega)))))), ?_⟩
      cases t with
      | leaf n =>
        refine ⟨v, rfl, v, .ty "tuple", _, _, false, rfl, .ty _, ty_leaf ht, kit_ty (by decide +kernel), _, rfl, iteT ⟨Nat.zero_le _, fun p hp => ?_⟩⟩
        exact q p [] _ (same_new hp) upd_same .nil
      | node l r =>
        refine ⟨v, rfl, v, .ty "tuple", _, _, true, rfl, .ty _, ty_tup ht, kit_ty (by decide +kernel), _, rfl, iteF ?_⟩
        have hl1 := T.reach_l hl
        have hd1 := T.ht_l hd
        obtain ⟨a, x, y, rfl, h1, h2, h3⟩ := ht
        refine ⟨_, rfl, a, _, 0, x, rfl, rfl, SqT.of h1, atI_nat (j := 0) rfl, l, x, rfl, h2, fun p3 H4 s4 e3 => ?_⟩
        refine ⟨p3, _, rfl, SqT.of e3, rfl, _, _, rfl, _, _, rfl, rfl, ?_⟩
        -- left
        refine ⟨_, rfl, a, _, 0, x, rfl, rfl, SqT.of (s4 _ _ h1), atI_nat (j := 0) rfl, l, x, rfl, h2.mono s4, hd1.1, by omega, fun p1 xs1 H5 s5 e1 d1 => ?_⟩
        have h15 := s5 _ _ (s4 _ _ h1)
        refine ⟨_, rfl, _, rfl, _, rfl, a, _, 1, y, rfl, rfl, SqT.of h15, atI_nat (j := 1) rfl, r, y, rfl, (h3.mono s4).mono s5, fun p4 H6 s6 e4 => ?_⟩
        refine ⟨p4, _, 1, vn r.lst, rfl, rfl, SqT.of e4, atI_nat (j := 1) rfl, (by show 3 ≤ sizeLine; decide), fun p5 n5 => ⟨by show 1 ≤ sizeLine; decide, fun p6 n6 => ?_⟩⟩
        have s7 := same_new (o := .tup [vn l.fst, vn l.lst, vn r.lst]) n5
        have s8 := same_new (o := .lst [V.ref p5]) n6
        have l1 := d1.length
        rw [T.spans_len] at l1
        refine ⟨p1, p6, xs1, [V.ref p5], rfl, rfl, s8 _ _ (s7 _ _ (s6 _ _ e1)), upd_same, ?_, fun p7 n7 => ?_⟩
        · refine sz1000 ?_
          show xs1.length + 1 ≤ 1000
          omega
        have s9 := same_new (o := .lst (xs1 ++ [V.ref p5])) n7
        have s59 := s6.trans (s7.trans (s8.trans s9))
        refine ⟨_, rfl, a, _, 1, y, rfl, rfl, SqT.of (s59 _ _ h15), atI_nat (j := 1) rfl, r, y, rfl, ((h3.mono s4).mono s5).mono s59, hd1.2, by omega, fun p2 xs2 Ha sa e2 d2 => ?_⟩
        have l2 := d2.length
        rw [T.spans_len] at l2
        refine ⟨p7, p2, _, xs2, rfl, rfl, sa _ _ upd_same, e2, ?_, fun p8 n8 => ?_⟩
        · refine sz1000 ?_
          rw [List.length_append, List.length_singleton]
          omega
        have sb := same_new (o := .lst ((xs1 ++ [V.ref p5]) ++ xs2)) n8
        refine q p8 _ _ (s4.trans (s5.trans (s59.trans (sa.trans sb)))) upd_same ?_
        have hp5 := sb _ _ (sa _ _ (s9 _ _ (s8 _ _ (upd_same (H := H6) (a := p5) (o := .tup [vn l.fst, vn l.lst, vn r.lst])))))
        have key : Paired (TripAt (upd Ha p8 (.lst ((xs1 ++ [V.ref p5]) ++ xs2)))) (l.spans ++ (l.fst, l.lst, r.lst) :: r.spans) (xs1 ++ (V.ref p5 :: xs2)) :=
          pairedApp (pairedMap (fun b z hz => hz.mono (s59.trans (sa.trans sb))) d1) (.cons ⟨p5, rfl, hp5⟩ (pairedMap (fun b z hz => hz.mono sb) d2))
        have e : xs1 ++ (V.ref p5 :: xs2) = (xs1 ++ [V.ref p5]) ++ xs2 := by rw [List.append_assoc]; rfl
        rw [e] at key
        exact key
/-! ### _law_arms -/
theorem scLArms : FnScope ["_law_tree_so", "_law_own"] ["_law_tree_so"] (defScope (topS 37)) := ⟨rfl, rfl, rfl, by decide +kernel, rfl, by decide +kernel, by decide +kernel⟩
theorem has_larms (B : Bi mg) (A : At K mg "_law_arms" (topS 37)) (hS : Has P w K mg base "_law_pairs" 9 (spSpans 8)) : Has P w K mg base "_law_arms" 10 spReaches := by
  refine has_of A scLArms (fun _ _ _ _ _ _ us hl => match us, hl with | [_], _ => rfl) (fun vs H Q E h => ?_) (fun f cdv A outer s H vs Q E hr h => ?_)
  · obtain ⟨t, v, rfl, _⟩ := h
    rfl
  · obtain ⟨t, v, rfl, ht, hd, hl, q⟩ := h
    refine ⟨_, pss_one (ps_ret (pe_callTy (cTup (K := K)) (by rfl) B.tuple (by decide +kernel) (pa_cons
      (pe_lc (own := [("_law_own", 1)]) (g := gName 1) (tt := tYes) (by rfl) scLArms.nd (pi_list (pe_c hS hr (pa_cons (pv 0) pa_nil)))
        (blkOk_by (own := [("_law_own", 1)]) (N := ["_law_tree_so", "_law_own"]) (sc := defScope (topS 37)) (by decide +kernel))
        (fun _ _ _ _ _ => pg_name (i := 1) scLArms.nd rfl (Or.inl rfl)) (fun _ _ _ _ _ => pts_nil) (fun _ _ _ _ _ => pe_ix (ixT (K := K)) (pv 1) pe_int (fun _ _ => rfl))) pa_nil))), ?_⟩
    refine ⟨v, rfl, t, v, rfl, ht, hd, hl, fun p xs H1 s1 h1 d1 => ⟨p, rfl, ⟨_, SqL.of h1⟩, fun D hD => ?_⟩⟩
    have hlen : xs.length = t.reach.length := by rw [← d1.length, T.spans_len]
    refine lc_gen (walk_list (K := K) (a := p) (xs := xs)) (by omega) hD (fun i H x => x = vn (t.reach.getD i 0)) (fun _ => true) (fun _ _ _ _ _ h => h) (fun H s => SqL.of (s _ _ h1))
      (fun i x H2 H3 Ky Kn hi s2 hy ky kn => ?_) (fun ys H2 s2 hD2 d2 => ?_)
    · obtain ⟨rfl, hx⟩ := hy
      obtain ⟨y, hy, a, rfl, ha⟩ := pairedGet d1 hx
      refine ⟨rfl, yes_el ⟨_, rfl, a, _, 2, vn y.2.2, rfl, rfl, SqT.of (s2 _ _ ha), atI_nat (j := 2) rfl, ky rfl _ _ (Same.refl _) ?_⟩⟩
      have e : t.reach[i]? = some y.2.2 := by rw [← T.spans_reach, List.getElem?_map, hy]; rfl
      rw [getD_of e]
    · refine ⟨D, ys, rfl, .inl ⟨SqL.of hD2, fun l hl2 => ?_⟩⟩
      rw [range_yes, hlen] at d2
      have e : ys = rowV t.reach := (pairedEq d2).trans (range_get t.reach 0 vn)
      refine q l _ (s1.trans (s2.trans (same_new hl2))) ?_
      rw [upd_same, e]
end
end Rg

namespace Rg
open PySem PySem.Spec PyProof.Rows L2
theorem T.after_len : ∀ t : T, t.after.length ≤ t.reach.length
  | .leaf _ => Nat.le_refl _
  | .node l r => by
    have h1 := T.after_len l
    have h2 := T.after_len r
    show ((l.after.map _) ++ ((r.after.map _) ++ _)).length ≤ (l.reach ++ r.lst :: r.reach).length
    rw [List.length_append, List.length_append, List.length_map, List.length_map, List.length_append, List.length_cons]
    cases l with
    | leaf n => show _ + (_ + 0) ≤ _; omega
    | node a b => show _ + (_ + 1) ≤ _; omega
theorem fitsL_allS : ∀ {a b : List Nat}, a.length = b.length → ((List.range a.length).map fun i => decide (((a.getD i 0 : Nat) : Int) ≤ ((b.getD i 0 : Nat) : Int))).all id = fitsL a b
  | [], _, _ => rfl
  | _ :: _, [], h => by simp at h
  | x :: xs, y :: ys, h => by
    have ih := fitsL_allS (a := xs) (b := ys) (by simpa using h)
    show ((List.range (xs.length + 1)).map _).all id = (Nat.ble x y && fitsL xs ys)
    rw [List.range_succ_eq_map, List.map_cons, List.all_cons, List.map_map, ← ih]
    have e : decide (((x : Nat) : Int) ≤ ((y : Nat) : Int)) = Nat.ble x y := by
      cases hb : Nat.ble x y with
      | true => exact decide_eq_true (by have := Nat.le_of_ble_eq_true hb; omega)
      | false =>
        refine decide_eq_false fun h => ?_
        have : Nat.ble x y = true := Nat.ble_eq_true_of_le (by omega)
        rw [hb] at this
        cases this
    show (decide (((x : Nat) : Int) ≤ ((y : Nat) : Int)) && _) = _
    rw [e]
    rfl
theorem none_backs {H H1 : Hp} {p : Addr} (s : Same H H1) (h : H1 p = none) : H p = none := by
  cases e : H p with
  | none => rfl
  | some o => rw [s _ _ e] at h; cases h
theorem paired_range {α β : Type} {R : α → β → Prop} : ∀ (a : List α) (b : List β), b.length = a.length → (∀ (i : Nat) x y, a[i]? = some x → b[i]? = some y → R x y) → Paired R a b
  | [], [], _, _ => .nil
  | [], _ :: _, h, _ => by simp at h
  | _ :: _, [], h, _ => by simp at h
  | x :: a, y :: b, h, hi => .cons (hi 0 x y rfl rfl) (paired_range a b (by simpa using h) fun i u v hu hv => hi (i + 1) u v (by simpa using hu) (by simpa using hv))
section
variable {P : Program} {w : World} {K : PySem.W.Frag} {mg : Str → Option Value} {base : Heap}
/-! ### _law_goes -/
theorem scLGoes : FnScope ["_law_one_so", "_law_far_so", "_law_mine", "_law_its"] ["_law_one_so", "_law_far_so"] (defScope (topS 40)) := ⟨rfl, rfl, rfl, by decide +kernel, rfl, by decide +kernel, by decide +kernel⟩
def spGoes : Sp := fun vs H Q _ => ∃ (x y : V) (s t : T), vs = [x, y] ∧ TOk H s x ∧ TOk H t y ∧ s.reach.length = t.reach.length ∧ ∀ H', Same H H' → Q (.bl (goes s t)) H'
theorem walk_zipT {a b : Addr} {xs ys : List V} (h : xs.length = ys.length) : Walk (RZ.ItzT K a b) xs.length (fun H => SqT K H a xs ∧ SqT K H b ys) (YPair (fun i => xs[i]?) (fun i => ys[i]?)) := by
  refine ⟨fun i H hi q => ⟨xs, ys, xs[i], ys[i]'(by omega), q.1, q.2, by simp [hi], by simp [show i < ys.length by omega]⟩, fun H q => ⟨xs, ys, q.1, q.2, .inl (Nat.le_refl _)⟩, fun i H v H' _ q y => ?_⟩
  obtain ⟨T, x, z, h1, h2, h3, h4, h5⟩ := y
  exact ⟨T, x, z, h1, h2, h3, h4 xs q.1, h5 ys q.2⟩
theorem has_lgoes (B : Bi mg) (A : At K mg "_law_goes" (topS 40)) (hR : Has P w K mg base "_law_arms" 10 spReaches) : Has P w K mg base "_law_goes" 11 spGoes := by
  refine has_of A scLGoes (fun _ _ _ _ _ _ us hl => match us, hl with | [_, _], _ => rfl) (fun vs H Q E h => ?_) (fun f cdv A outer s H vs Q E hr h => ?_)
  · obtain ⟨x, y, s, t, rfl, _⟩ := h
    rfl
  · obtain ⟨x, y, t1, t2, rfl, hx, hy, hl, q⟩ := h
    refine ⟨_, pss_one (ps_ret (pe_callB (cAll (K := K)) (by rfl) B.all (by decide +kernel) (pa_cons
      (pe_lc (own := [("_law_mine", 2), ("_law_its", 3)]) (g := gTup K 2 (gCons (gName 2) (gCons (gName 3) gNil))) (tt := tYes) (by rfl) scLGoes.nd
        (RZ.pi_zipA (by rfl) B.zip (pa_cons (pe_c hR hr (pa_cons (pv 0) pa_nil)) (pa_cons (pe_c hR hr (pa_cons (pv 1) pa_nil)) pa_nil)))
        (blkOk_by (own := [("_law_mine", 2), ("_law_its", 3)]) (N := ["_law_one_so", "_law_far_so", "_law_mine", "_law_its"]) (sc := defScope (topS 40)) (by decide +kernel))
        (fun _ _ _ _ _ => pg_tup (by rfl) (pgs_cons (pg_name (i := 2) scLGoes.nd rfl (Or.inl rfl)) (pgs_cons (pg_name (i := 3) scLGoes.nd rfl (Or.inl rfl)) pgs_nil)))
        (fun _ _ _ _ _ => pts_nil)
        (fun _ _ _ _ _ => pe_cmpR op_le (pv 2) (pv 3) (nomark _))) pa_nil))), ?_⟩
    refine ⟨_, rfl, t1, x, rfl, hx.1, hx.2.1, hx.2.2, fun p1 H1 s1 h1 => ⟨_, rfl, t2, y, rfl, hy.1.mono s1, hy.2.1, hy.2.2, fun p2 H2 s2 h2 => ?_⟩⟩
    refine ⟨p1, p2, _, _, rfl, .inr ⟨SqT.of (s2 _ _ h1), SqT.of h2, fun D hD => ?_⟩⟩
    have hl1 := hx.2.2
    refine lc_gen (walk_zipT (K := K) (a := p1) (b := p2) (xs := rowV t1.reach) (ys := rowV t2.reach) (by rw [List.length_map, List.length_map]; exact hl)) (by rw [List.length_map]; omega) hD
      (fun i H z => z = V.bl (decide (((t1.reach.getD i 0 : Nat) : Int) ≤ ((t2.reach.getD i 0 : Nat) : Int)))) (fun _ => true) (fun _ _ _ _ _ h => h) (fun H s => ⟨SqT.of (s _ _ (s2 _ _ h1)), SqT.of (s _ _ h2)⟩)
      (fun i z H3 H4 Ky Kn hi s3 hy ky kn => ?_) (fun ys H3 s3 hD3 d3 => ?_)
    · obtain ⟨Tp, u, v, rfl, nT, rfl, hu, hv⟩ := hy
      obtain ⟨n1, e1, rfl⟩ : ∃ n, t1.reach[i]? = some n ∧ u = vn n := by
        have hu : (t1.reach.map vn)[i]? = some u := hu
        rw [List.getElem?_map] at hu
        obtain ⟨n, h1, h2⟩ := Option.map_eq_some_iff.mp hu
        exact ⟨n, h1, h2.symm⟩
      obtain ⟨n2, e2, rfl⟩ : ∃ n, t2.reach[i]? = some n ∧ v = vn n := by
        have hv : (t2.reach.map vn)[i]? = some v := hv
        rw [List.getElem?_map] at hv
        obtain ⟨n, h1, h2⟩ := Option.map_eq_some_iff.mp hv
        exact ⟨n, h1, h2.symm⟩
      have sT := same_new (o := .tup [vn n1, vn n2]) nT
      refine g2 upd_same ⟨rfl, yes_el ⟨_, rfl, _, rfl, (n1 : Int), (n2 : Int), rfl, rfl, ky rfl _ _ sT ?_⟩⟩
      rw [getD_of e1, getD_of e2]
    · have e := pairedEq (f := fun i => V.bl (decide (((t1.reach.getD i 0 : Nat) : Int) ≤ ((t2.reach.getD i 0 : Nat) : Int)))) d3
      rw [range_yes, List.length_map] at e
      refine ⟨D, (List.range t1.reach.length).map fun i => decide (((t1.reach.getD i 0 : Nat) : Int) ≤ ((t2.reach.getD i 0 : Nat) : Int)), rfl, SqL.of (by rw [hD3, e, List.map_map]; rfl), ?_⟩
      rw [fitsL_allS hl]
      exact q _ (s1.trans (s2.trans s3))
/-! ### _law_after -/
theorem scLAfter : FnScope ["_law_tree_so", "_law_mine", "_law_its", "_law_found", "_law_own"] ["_law_tree_so"] (defScope (topS 38)) := ⟨rfl, rfl, rfl, by decide +kernel, rfl, by decide +kernel, by decide +kernel⟩
def spAfter (d : Nat) : Sp := fun vs H Q _ => ∃ (t : T) (v : V), vs = [v] ∧ TAt H t v ∧ t.ht < d ∧ t.reach.length ≤ 100 ∧ ∀ p xs H', H p = none → Same H H' → H' p = some (.lst xs) → Paired (TAt H') t.after xs → Q (.ref p) H'
theorem has_lafter (B : Bi mg) (A : At K mg "_law_after" (topS 38)) : ∀ d, Has P w K mg base "_law_after" d (spAfter d)
  | 0 => has_no A (ps := ["_law_tree_so"]) (fun _ _ _ _ _ _ us hl => match us, hl with | [_], _ => rfl) fun vs H Q E h => by
    obtain ⟨t, v, _, _, h, _⟩ := h
    exact absurd h (Nat.not_lt_zero _)
  | d + 1 => by
    have hS := has_lafter B A d
    refine has_of A scLAfter (fun _ _ _ _ _ _ us hl => match us, hl with | [_], _ => rfl) (fun vs H Q E h => ?_) (fun f cdv A outer s H vs Q E hr h => ?_)
    · obtain ⟨t, v, rfl, _⟩ := h
      rfl
    · obtain ⟨t, v, rfl, ht, hd, hl, q⟩ := h
      refine ⟨_, pss_cons (ps_if (pt_not (pt_val (pe_callB (cIsi (K := K)) (by rfl) B.isinstance PyProof.Rows.boot_isinstance (pa_cons (pv 0) (pa_cons (pe_bltn (v := .ty "tuple") (by rfl) B.tuple (by decide +kernel) rfl) pa_nil))))) (pss_one (ps_ret (pe_lst pa_nil))) pss_nil)
        (pss_cons (ps_asg (pv 0) (pg_tup (by rfl) (pgs_cons (pg_name (i := 1) scLAfter.nd rfl (.inr rfl)) (pgs_cons (pg_name (i := 2) scLAfter.nd rfl (.inr rfl)) pgs_nil))))
        (pss_cons (ps_set (i := 3) scLAfter.nd rfl (Or.inl rfl) (pe_op op_cat
          (pe_lc (own := [("_law_own", 4)]) (g := gName 4) (tt := tYes) (by rfl) scLAfter.nd (pi_list (pe_c hS hr (pa_cons (pv 1) pa_nil) (by omega)))
            (blkOk_by (own := [("_law_own", 4)]) (N := ["_law_tree_so", "_law_mine", "_law_its", "_law_found", "_law_own"]) (sc := defScope (topS 38)) (by decide +kernel))
            (fun _ _ _ _ _ => pg_name (i := 4) scLAfter.nd rfl (Or.inl rfl)) (fun _ _ _ _ _ => pts_nil) (fun _ _ _ _ _ => pe_tup (pa_cons (pv 4) (pa_cons (pv 2) pa_nil))))
          (pe_lc (own := [("_law_own", 4)]) (g := gName 4) (tt := tYes) (by rfl) scLAfter.nd (pi_list (pe_c hS hr (pa_cons (pv 2) pa_nil) (by omega)))
            (blkOk_by (own := [("_law_own", 4)]) (N := ["_law_tree_so", "_law_mine", "_law_its", "_law_found", "_law_own"]) (sc := defScope (topS 38)) (by decide +kernel))
            (fun _ _ _ _ _ => pg_name (i := 4) scLAfter.nd rfl (Or.inl rfl)) (fun _ _ _ _ _ => pts_nil) (fun _ _ _ _ _ => pe_tup (pa_cons (pv 1) (pa_cons (pv 4) pa_nil))))))
        (pss_cons (ps_if (pt_val (pe_callB (cIsi (K := K)) (by rfl) B.isinstance PyProof.Rows.boot_isinstance (pa_cons (pv 1) (pa_cons (pe_bltn (v := .ty "tuple") (by rfl) B.tuple (by decide +kernel) rfl) pa_nil))))
          (pss_one (ps_expr (pe_bm PySem.F.plainAttrs_list PySem.F.slot_list_append PySem.F.type_list_append mt_append (pv 3) (pa_cons (pe_tup (pa_cons (pe_ix ix_tup (pv 1) pe_int (fun _ _ => rfl)) (pa_cons (pe_tup (pa_cons (pe_ix ix_tup (pv 1) pe_int (fun _ _ => rfl)) (pa_cons (pv 2) pa_nil))) pa_nil))) pa_nil)))) pss_nil)
        (pss_one (ps_ret (pv 3)))))), ?_⟩
      cases t with
      | leaf n =>
        refine ⟨v, rfl, v, .ty "tuple", _, _, false, rfl, .ty _, ty_leaf ht, kit_ty (by decide +kernel), _, rfl, iteT ⟨Nat.zero_le _, fun p hp => ?_⟩⟩
        exact q p [] _ hp (same_new hp) upd_same .nil
      | node l r =>
        refine ⟨v, rfl, v, .ty "tuple", _, _, true, rfl, .ty _, ty_tup ht, kit_ty (by decide +kernel), _, rfl, iteF ?_⟩
        have hl1 := T.reach_l hl
        have hd1 := T.ht_l hd
        have al := T.after_len l
        have ar := T.after_len r
        obtain ⟨a, x, y, rfl, h1, h2, h3⟩ := ht
        refine ⟨_, rfl, g2 h1 ?_⟩
        -- the two lists
        refine ⟨x, rfl, l, x, rfl, h2, hd1.1, by omega, fun p1 xs1 H1 _ s1 e1 d1 => ⟨p1, rfl, ⟨_, SqL.of e1⟩, fun D1 hD1 => ?_⟩⟩
        refine lc_gen (walk_list (K := K) (a := p1) (xs := xs1)) (by rw [← d1.length]; omega) hD1 (fun i H z => ∃ t', l.after[i]? = some t' ∧ TAt H (.node t' r) z) (fun _ => true) (fun i H H' z e h => by obtain ⟨t', h1, h2⟩ := h; exact ⟨t', h1, h2.tup e⟩) (fun H s => SqL.of (s _ _ e1))
          (fun i z H2 H3 Ky Kn hi s2 hy ky kn => ?_) (fun ys1 H2 s2 hD2 d2 => ?_)
        · obtain ⟨rfl, hz⟩ := hy
          obtain ⟨t', ht1, ht2⟩ := pairedGet d1 hz
          refine ⟨rfl, yes_el ⟨_, rfl, _, rfl, (by show 2 ≤ sizeLine; decide), fun p np => ?_⟩⟩
          have s3 := same_new (o := .tup [z, y]) np
          exact ky rfl _ _ s3 ⟨t', ht1, p, z, y, rfl, upd_same, (ht2.mono s2).mono s3, ((h3.mono s1).mono s2).mono s3⟩
        have s12 := s1.trans s2
        refine ⟨y, rfl, r, y, rfl, h3.mono s12, hd1.2, by omega, fun p2 xs2 H4 np2 s4 e4 d4 => ⟨p2, rfl, ⟨_, SqL.of e4⟩, fun D2 hD4 => ?_⟩⟩
        refine lc_gen (walk_list (K := K) (a := p2) (xs := xs2)) (by rw [← d4.length]; omega) hD4 (fun i H z => ∃ t', r.after[i]? = some t' ∧ TAt H (.node l t') z) (fun _ => true) (fun i H H' z e h => by obtain ⟨t', h1, h2⟩ := h; exact ⟨t', h1, h2.tup e⟩) (fun H s => SqL.of (s _ _ e4))
          (fun i z H5 H6 Ky Kn hi s5 hy ky kn => ?_) (fun ys2 H5 s5 hD5 d5 => ?_)
        · obtain ⟨rfl, hz⟩ := hy
          obtain ⟨t', ht1, ht2⟩ := pairedGet d4 hz
          refine ⟨rfl, yes_el ⟨_, rfl, _, rfl, (by show 2 ≤ sizeLine; decide), fun p np => ?_⟩⟩
          have s3 := same_new (o := .tup [x, z]) np
          exact ky rfl _ _ s3 ⟨t', ht1, p, x, z, rfl, upd_same, (((h2.mono s12).mono s4).mono s5).mono s3, (ht2.mono s5).mono s3⟩
        rw [range_yes] at d2 d5
        have l2 : ys1.length = l.after.length := by rw [← d2.length, List.length_range, d1.length]
        have l5 : ys2.length = r.after.length := by rw [← d5.length, List.length_range, d4.length]
        have s45 := s4.trans s5
        refine ⟨D1, D2, ys1, ys2, rfl, rfl, s45 _ _ hD2, hD5, sz1000 (by omega), fun p7 n7 => ?_⟩
        have s7 := same_new (o := .lst (ys1 ++ ys2)) n7
        have sAll : Same H (upd H5 p7 (.lst (ys1 ++ ys2))) := s12.trans (s45.trans s7)
        have n0 : H p7 = none := none_backs (s12.trans s45) n7
        -- what the two lists hold
        have pr : Paired (TAt (upd H5 p7 (.lst (ys1 ++ ys2)))) ((l.after.map fun x => T.node x r) ++ (r.after.map fun x => T.node l x)) (ys1 ++ ys2) := by
          refine pairedApp ?_ ?_
          · refine paired_range (l.after.map fun x => T.node x r) ys1 (by rw [List.length_map]; exact l2) (fun i t z ht hz => ?_)
            obtain ⟨u, hu, t', h1, h2⟩ := pairedGet' d2 (i := i) (y := i) (by
              have : i < l.after.length := by rw [← l2]; exact (List.getElem?_eq_some_iff.mp hz).1
              have := d1.length
              rw [List.getElem?_range (by omega)])
            rw [hz] at hu
            cases hu
            rw [List.getElem?_map, h1] at ht
            cases ht
            exact (h2.mono s45).mono s7
          · refine paired_range (r.after.map fun x => T.node l x) ys2 (by rw [List.length_map]; exact l5) (fun i t z ht hz => ?_)
            obtain ⟨u, hu, t', h1, h2⟩ := pairedGet' d5 (i := i) (y := i) (by
              have : i < r.after.length := by rw [← l5]; exact (List.getElem?_eq_some_iff.mp hz).1
              have := d4.length
              rw [List.getElem?_range (by omega)])
            rw [hz] at hu
            cases hu
            rw [List.getElem?_map, h1] at ht
            cases ht
            exact h2.mono s7
        have h7 : (upd H5 p7 (.lst (ys1 ++ ys2))) p7 = some (.lst (ys1 ++ ys2)) := upd_same
        have h2' := h2.mono sAll
        have h3' := h3.mono sAll
        generalize (upd H5 p7 (.lst (ys1 ++ ys2))) = H8 at s7 sAll pr h7 h2' h3'
        cases l with
        | leaf n =>
          refine ⟨x, rfl, x, .ty "tuple", _, _, false, rfl, .ty _, ty_leaf h2', kit_ty (by decide +kernel), _, rfl, iteF ?_⟩
          refine ⟨_, rfl, q p7 _ H8 n0 sAll h7 ?_⟩
          show Paired _ (_ ++ (_ ++ [])) _
          rw [List.append_nil]
          exact pr
        | node b c =>
          refine ⟨x, rfl, x, .ty "tuple", _, _, true, rfl, .ty _, ty_tup h2', kit_ty (by decide +kernel), _, rfl, iteT ?_⟩
          obtain ⟨ax, u, z, rfl, hx1, hx2, hx3⟩ := h2'
          refine ⟨_, rfl, .inl ⟨rfl, _, SqL.of h7⟩, _, rfl, ax, _, 0, u, rfl, rfl, SqT.of hx1, atI_nat (j := 0) rfl, _, rfl, ax, _, 1, z, rfl, rfl, SqT.of hx1, atI_nat (j := 1) rfl, _, rfl, (by show 2 ≤ sizeLine; decide), fun p9 n9 => ⟨by show 2 ≤ sizeLine; decide, fun pA nA => ?_⟩⟩
          have s9 := same_new (o := .tup [z, y]) n9
          have sA := same_new (o := .tup [u, V.ref p9]) nA
          have h7A := sA _ _ (s9 _ _ h7)
          refine ⟨p7, ys1 ++ ys2, V.ref pA, rfl, rfl, h7A, ?_, ?_⟩
          · rw [List.length_append]
            exact small1000 (by omega)
          · have hT : TupEx (upd (upd H8 p9 (.tup [z, y])) pA (.tup [u, V.ref p9])) (upd (upd (upd H8 p9 (.tup [z, y])) pA (.tup [u, V.ref p9])) p7 (.lst ((ys1 ++ ys2) ++ [V.ref pA]))) := tupEx_upd h7A (fun xs z => nomatch z)
            refine ⟨_, rfl, q p7 _ _ n0 (Same.mut (sAll.trans (s9.trans sA)) n0) upd_same ?_⟩
            show Paired _ (_ ++ (_ ++ [T.node b (.node c r)])) _
            rw [← List.append_assoc]
            refine pairedApp (pairedMap (fun _ _ h => (h.mono (s9.trans sA)).tup hT) pr) (.cons ?_ .nil)
            have hpA : (upd (upd H8 p9 (.tup [z, y])) pA (.tup [u, V.ref p9])) pA = some (.tup [u, V.ref p9]) := upd_same
            have hp9 := sA _ _ (upd_same (H := H8) (a := p9) (o := .tup [z, y]))
            exact ⟨pA, u, .ref p9, rfl, hT _ _ hpA, (hx2.mono (s9.trans sA)).tup hT, p9, z, y, rfl, hT _ _ hp9, (hx3.mono (s9.trans sA)).tup hT, (h3'.mono (s9.trans sA)).tup hT⟩
end
end Rg

namespace Rg
open PySem PySem.Spec PyProof.Rows L2
def lenE : Nat → Nat → Nat
  | 0, _ => 1
  | d + 1, k => if k = 0 then 1 else ((List.range k).map fun i => lenE d i * lenE d (k - i - 1)).sum
theorem flat_len {α β : Type} (f : α → List β) : ∀ l : List α, (l.flatMap f).length = (l.map fun x => (f x).length).sum
  | [] => rfl
  | x :: l => by rw [List.flatMap_cons, List.length_append, flat_len f l]; rfl
theorem flat_const {α β : Type} (f : α → List β) (c : Nat) (h : ∀ x, (f x).length = c) : ∀ l : List α, (l.flatMap f).length = l.length * c
  | [] => by simp
  | x :: l => by rw [List.flatMap_cons, List.length_append, flat_const f c h l, h, List.length_cons, Nat.succ_mul]; omega
theorem every_len : ∀ (d a b : Nat), a ≤ b → (every d a b).length = lenE d (b - a)
  | 0, _, _, _ => rfl
  | d + 1, a, b, h => by
    unfold every lenE
    by_cases e : a = b
    · rw [if_pos e, if_pos (by omega)]
      rfl
    · rw [if_neg e, if_neg (by omega), flat_len]
      congr 1
      refine List.map_congr_left fun i hi => ?_
      have hi := List.mem_range.mp hi
      rw [flat_const _ (every d (a + i + 1) b).length (fun l => List.length_map _), every_len d a (a + i) (by omega), every_len d (a + i + 1) b (by omega)]
      congr 2 <;> omega
theorem lenE_le : ∀ d, d ≤ 7 → ∀ k, k < d → lenE d k ≤ 1000 := by decide +kernel
theorem every_small {d a b : Nat} (h : a ≤ b) (hd : d ≤ 7) (hk : b - a < d) : (every d a b).length ≤ 1000 := by
  rw [every_len d a b h]
  exact lenE_le d hd _ hk
theorem flat_take {α β : Type} (f : α → List β) (l : List α) (j : Nat) : ((l.take j).flatMap f).length ≤ (l.flatMap f).length := by
  have e : l.flatMap f = (l.take j).flatMap f ++ (l.drop j).flatMap f := by rw [← List.flatMap_append, List.take_append_drop]
  rw [e, List.length_append]
  omega
/-- the groupings by the place of the cut -/
abbrev evCut (d a b i : Nat) : List T := (every d a (a + i)).flatMap fun l => (every d (a + i + 1) b).map fun r => T.node l r
section
variable {P : Program} {w : World} {K : PySem.W.Frag} {mg : Str → Option Value} {base : Heap}
theorem scLEvery : FnScope ["_law_first_so", "_law_last_so", "_law_found", "_law_cut_so", "_law_its", "_law_own", "_law_far"] ["_law_first_so", "_law_last_so"] (defScope (topS 39)) := ⟨rfl, rfl, rfl, by decide +kernel, rfl, by decide +kernel, by decide +kernel⟩
def spEvery (d : Nat) : Sp := fun vs H Q _ => ∃ (a b : Nat), vs = [vn a, vn b] ∧ a ≤ b ∧ b - a < d ∧ d ≤ 7 ∧ b ≤ 100 ∧ ∀ p xs H', Same H H' → H' p = some (.lst xs) → Paired (TAt H') (every d a b) xs → Q (.ref p) H'
theorem has_levery (B : Bi mg) (A : At K mg "_law_every" (topS 39)) : ∀ d, Has P w K mg base "_law_every" d (spEvery d)
  | 0 => has_no A (ps := ["_law_first_so", "_law_last_so"]) (fun _ _ _ _ _ _ us hl => match us, hl with | [_, _], _ => rfl) fun vs H Q E h => by
    obtain ⟨a, b, _, _, h, _⟩ := h
    exact absurd h (Nat.not_lt_zero _)
  | d + 1 => by
    have hS := has_levery B A d
    refine has_of A scLEvery (fun _ _ _ _ _ _ us hl => match us, hl with | [_, _], _ => rfl) (fun vs H Q E h => ?_) (fun f cdv A outer s H vs Q E hr h => ?_)
    · obtain ⟨a, b, rfl, _⟩ := h
      rfl
    · obtain ⟨a, b, rfl, hab, hd, hd7, hb, q⟩ := h
      refine ⟨_, pss_cons (ps_if (pt_cmpR op_eq (pv 0) (pv 1) (nomark _)) (pss_one (ps_ret (pe_lst (pa_cons (pv 0) pa_nil)))) pss_nil)
        (pss_cons (ps_set (i := 2) scLEvery.nd rfl (Or.inl rfl) (pe_lst pa_nil))
        (pss_cons (ps_for PassesOwn.never rfl (pi_range2 (by rfl) B.range (pa_cons (pv 0) (pa_cons (pv 1) pa_nil))) (pg_name (i := 3) scLEvery.nd rfl (.inl rfl))
          (pss_cons (ps_set (i := 4) scLEvery.nd rfl (Or.inl rfl) (pe_c hS hr (pa_cons (pe_op op_add (pv 3) pe_int) (pa_cons (pv 1) pa_nil)) (by omega)))
          (pss_one (ps_for PassesOwn.never rfl (pi_list (pe_c hS hr (pa_cons (pv 0) (pa_cons (pv 3) pa_nil)) (by omega))) (pg_name (i := 5) scLEvery.nd rfl (.inr rfl))
            (pss_one (ps_set (i := 2) scLEvery.nd rfl (Or.inl rfl) (pe_op op_cat (pv 2)
              (pe_lc (own := [("_law_far", 6)]) (g := gName 6) (tt := tYes) (by rfl) scLEvery.nd (pi_list (pv 4))
                (blkOk_by (own := [("_law_far", 6)]) (N := ["_law_first_so", "_law_last_so", "_law_found", "_law_cut_so", "_law_its", "_law_own", "_law_far"]) (sc := defScope (topS 39)) (by decide +kernel))
                (fun _ _ _ _ _ => pg_name (i := 6) scLEvery.nd rfl (Or.inl rfl)) (fun _ _ _ _ _ => pts_nil) (fun _ _ _ _ _ => pe_tup (pa_cons (pv 5) (pa_cons (pv 6) pa_nil)))))))))))
        (pss_one (ps_ret (pv 2))))), ?_⟩
      have htot := every_small hab hd7 hd
      by_cases e : a = b
      · refine ⟨_, rfl, _, rfl, rfl, _, rfl, ?_⟩
        rw [decide_eq_true (by rw [e])]
        refine iteT ⟨_, rfl, (by show 1 ≤ sizeLine; decide), fun p np => q p _ _ (same_new np) upd_same ?_⟩
        have ee : every (d + 1) a b = [.leaf a] := by unfold every; rw [if_pos e]
        rw [ee]
        exact .cons rfl .nil
      · refine ⟨_, rfl, _, rfl, rfl, _, rfl, ?_⟩
        rw [decide_eq_false (fun z => by have z : V.int (a : Int) = V.int (b : Int) := z; injection z with z; omega)]
        refine iteF ⟨Nat.zero_le _, fun p0 np0 => ?_⟩
        have eE : every (d + 1) a b = (List.range (b - a)).flatMap (evCut d a b) := by show (if a = b then _ else _) = _; rw [if_neg e]
        rw [eE] at htot q
        refine ⟨_, rfl, _, rfl, (a : Int), (b : Int), rfl, ⟨by omega, by omega, by omega, by omega⟩, ?_⟩
        have en : ((b : Int) - (a : Int)).toNat = b - a := by omega
        rw [en]
        have pre : ∀ i, i < b - a → ∀ j, ((List.range i).flatMap (evCut d a b) ++ ((every d a (a + i)).take j).flatMap fun l => (every d (a + i + 1) b).map fun r => T.node l r).length ≤ 1000 := fun i hi j => by
          have h1 := flat_take (fun l => (every d (a + i + 1) b).map fun r => T.node l r) (every d a (a + i)) j
          have h2 := flat_take (evCut d a b) (List.range (b - a)) (i + 1)
          have h3 : (List.range (b - a)).take (i + 1) = List.range (i + 1) := by rw [List.take_range, Nat.min_eq_left (by omega)]
          rw [h3, List.range_succ, List.flatMap_append, List.length_append] at h2
          have h4 : ([i].flatMap (evCut d a b)).length = (evCut d a b i).length := by rw [List.flatMap_cons, List.flatMap_nil, List.append_nil]
          rw [h4] at h2
          rw [List.length_append]
          have h5 : ((every d a (a + i)).take j).length ≤ _ := List.length_take_le j _
          have h6 : (evCut d a b i).length = ((every d a (a + i)).flatMap fun l => (every d (a + i + 1) b).map fun r => T.node l r).length := rfl
          omega
        refine for_it (walk_range (lo := (a : Int)) (n := b - a)) (fun i σ H' => ∃ (pf : Addr) (xs : List V) (y3 y4 y5 y6 : Option V), σ = [some (vn a), some (vn b), some (.ref pf), y3, y4, y5, y6] ∧ Same H H' ∧ H' pf = some (.lst xs) ∧ Paired (TAt H') ((List.range i).flatMap (evCut d a b)) xs)
          ⟨p0, [], none, none, none, none, rfl, same_new np0, upd_same, .nil⟩ (fun _ _ _ _ _ => trivial) (fun i x σ H1 H2 hi p yv => ?_) (fun σ H1 p => ?_)
        · obtain ⟨rfl, ex⟩ := yv
          have ex : x = vn (a + i) := ex
          subst ex
          obtain ⟨pf, xs, y3, y4, y5, y6, rfl, q1, q2, q3⟩ := p
          refine ⟨_, rfl, ((a + i : Nat) : Int), 1, rfl, rfl, _, rfl, a + i + 1, b, rfl, by omega, by omega, by omega, hb, fun p1 xs1 H3 s3 h3 d3 => ?_⟩
          refine ⟨_, rfl, _, rfl, a, a + i, rfl, by omega, by omega, by omega, by omega, fun p2 xs2 H4 s4 h4 d4 => ⟨p2, rfl, ⟨_, SqL.of h4⟩, ?_⟩⟩
          have s24 := s3.trans s4
          refine for_it (walk_list (K := K) (a := p2) (xs := xs2)) (fun j σ H' => ∃ (pf : Addr) (xs : List V) (y5 y6 : Option V), σ = [some (vn a), some (vn b), some (.ref pf), some (vn (a + i)), some (.ref p1), y5, y6] ∧ Same H4 H' ∧ H' pf = some (.lst xs) ∧
              Paired (TAt H') ((List.range i).flatMap (evCut d a b) ++ ((every d a (a + i)).take j).flatMap fun l => (every d (a + i + 1) b).map fun r => T.node l r) xs)
            ⟨pf, xs, y5, y6, rfl, Same.refl _, s24 _ _ q2, by rw [List.take_zero, List.flatMap_nil, List.append_nil]; exact pairedMap (fun _ _ h => h.mono s24) q3⟩ (fun j σ H' _ p => by obtain ⟨_, _, _, _, _, z1, _⟩ := p; exact SqL.of (z1 _ _ h4)) (fun j z σ H5 H6 hj p yv => ?_) (fun σ H5 p => ?_)
          · obtain ⟨rfl, hz⟩ := yv
            obtain ⟨pg, ys, y5', y6', rfl, z1, z2, z3⟩ := p
            obtain ⟨l, hl1, hl2⟩ := pairedGet d4 hz
            refine ⟨_, rfl, _, rfl, p1, rfl, ⟨_, SqL.of (z1 _ _ (s4 _ _ h3))⟩, fun D hD => ?_⟩
            have h16 := z1 _ _ (s4 _ _ h3)
            have hl6 := hl2.mono z1
            have dl1 : xs1.length ≤ 1000 := by
              rw [← d3.length]
              exact every_small (by omega) (by omega) (by omega)
            refine lc_gen (walk_list (K := K) (a := p1) (xs := xs1)) dl1 hD (fun k H z => ∃ t', (every d (a + i + 1) b)[k]? = some t' ∧ TAt H (.node l t') z) (fun _ => true) (fun k H H' z e h => by obtain ⟨t', h1, h2⟩ := h; exact ⟨t', h1, h2.tup e⟩) (fun H s => SqL.of (s _ _ h16))
              (fun k u H7 H8 Ky Kn hk s7 hy ky kn => ?_) (fun us H7 s7 hD7 d7 => ?_)
            · obtain ⟨rfl, hu⟩ := hy
              obtain ⟨t', ht1, ht2⟩ := pairedGet d3 hu
              refine ⟨rfl, yes_el ⟨_, rfl, _, rfl, (by show 2 ≤ sizeLine; decide), fun p np => ?_⟩⟩
              have s8 := same_new (o := .tup [z, u]) np
              exact ky rfl _ _ s8 ⟨t', ht1, p, z, u, rfl, upd_same, (hl6.mono s7).mono s8, (((ht2.mono s4).mono z1).mono s7).mono s8⟩
            · rw [range_yes] at d7
              have lu : us.length = (every d (a + i + 1) b).length := by rw [← d7.length, List.length_range, d3.length]
              have ej : (every d a (a + i)).take (j + 1) = (every d a (a + i)).take j ++ [l] := by rw [List.take_add_one, hl1]; rfl
              have eS : ((List.range i).flatMap (evCut d a b) ++ ((every d a (a + i)).take (j + 1)).flatMap fun l => (every d (a + i + 1) b).map fun r => T.node l r) =
                  ((List.range i).flatMap (evCut d a b) ++ ((every d a (a + i)).take j).flatMap fun l => (every d (a + i + 1) b).map fun r => T.node l r) ++ (every d (a + i + 1) b).map fun r => T.node l r := by
                rw [ej, List.flatMap_append, List.append_assoc, List.flatMap_cons, List.flatMap_nil, List.append_nil]
              have hsz := pre i (by have : i < b - a := hi; omega) (j + 1)
              rw [eS, List.length_append, List.length_map] at hsz
              refine ⟨pg, D, ys, us, rfl, rfl, s7 _ _ z2, hD7, sz1000 (by have := z3.length; omega), fun p9 n9 => ?_⟩
              have s9 := same_new (o := .lst (ys ++ us)) n9
              refine ⟨p9, ys ++ us, _, _, rfl, z1.trans (s7.trans s9), upd_same, ?_⟩
              rw [eS]
              refine pairedApp (pairedMap (fun _ _ h => h.mono (s7.trans s9)) z3) (paired_range ((every d (a + i + 1) b).map fun r => T.node l r) us (by rw [List.length_map]; exact lu) (fun k t z ht hz => ?_))
              obtain ⟨u, hu, t', h1, h2⟩ := pairedGet' d7 (i := k) (y := k) (by
                have : k < (every d (a + i + 1) b).length := by rw [← lu]; exact (List.getElem?_eq_some_iff.mp hz).1
                have := d3.length
                rw [List.getElem?_range (by omega)])
              rw [hz] at hu
              cases hu
              rw [List.getElem?_map, h1] at ht
              cases ht
              exact h2.mono s9
          · obtain ⟨pg, ys, y5', y6', rfl, z1, z2, z3⟩ := p
            refine ⟨pg, ys, _, _, _, _, rfl, q1.trans (s24.trans z1), z2, ?_⟩
            rw [← d4.length, List.take_length] at z3
            rw [List.range_succ, List.flatMap_append, List.flatMap_cons, List.flatMap_nil, List.append_nil]
            exact z3
        · obtain ⟨pf, xs, y3, y4, y5, y6, rfl, q1, q2, q3⟩ := p
          exact ⟨_, rfl, q pf xs H1 q1 q2 q3⟩
end
end Rg

namespace Rg
open PySem PySem.Spec PyProof.Rows L2
/-- the law's box of digits: m bounds how often it was asked past its digits -/
def BoxAt (H : Hp) (a : Addr) (m : Nat) : Prop := ∃ x y z : Int, H a = some (.lst [.int x, .int y, .int z]) ∧ 0 ≤ y ∧ y < 2 ^ 62 ∧ 0 ≤ z ∧ z ≤ m
theorem BoxAt.up {H : Hp} {a : Addr} {m k : Nat} (h : BoxAt H a m) (e : m ≤ k) : BoxAt H a k := by
  obtain ⟨x, y, z, h1, h2, h3, h4, h5⟩ := h
  exact ⟨x, y, z, h1, h2, h3, h4, by omega⟩
theorem BoxAt.mono {H H' : Hp} {a : Addr} {m : Nat} (h : BoxAt H a m) (s : Same H H') : BoxAt H' a m := by
  obtain ⟨x, y, z, h1, h2⟩ := h
  exact ⟨x, y, z, s _ _ h1, h2⟩
theorem BoxAt.tup {H H' : Hp} {a : Addr} {m : Nat} (h : BoxAt H a m) (s : SameX a H H') : TupEx H H' := fun b xs e => by
  obtain ⟨x, y, z, h1, _⟩ := h
  exact s b _ (ne_of e h1 (fun z => nomatch z)) e
theorem SameX.refl (p : Addr) (H : Hp) : SameX p H H := fun _ _ _ e => e
section
variable {P : Program} {w : World} {K : PySem.W.Frag} {mg : Str → Option Value} {base : Heap}
/-! ### _law_take -/
theorem scTake : FnScope ["_law_box_here", "_law_below", "_law_digit_so", "_law_once", "_law_odd", "_law_twice"] ["_law_box_here", "_law_below"] (defScope (topS 30)) := ⟨rfl, rfl, rfl, by decide +kernel, rfl, by decide +kernel, by decide +kernel⟩
def spTake : Sp := fun vs H Q _ => ∃ (a : Addr) (m b : Nat), vs = [.ref a, vn b] ∧ BoxAt H a m ∧ m < 1000000 ∧ 0 < b ∧ b ≤ 1000000 ∧ ∀ (r : Nat) H', SameX a H H' → BoxAt H' a (m + 1) → r < b → Q (vn r) H'
theorem has_take (B : Bi mg) (A : At K mg "_law_take" (topS 30)) : Has P w K mg base "_law_take" 1 spTake := by
  refine has_of A scTake (fun _ _ _ _ _ _ us hl => match us, hl with | [_, _], _ => rfl) (fun vs H Q E h => ?_) (fun f cdv A outer s H vs Q E hr h => ?_)
  · obtain ⟨a, m, b, rfl, _⟩ := h
    rfl
  · obtain ⟨a, m, b, rfl, ⟨x, y, z, ha, hy0, hy1, hz0, hz1⟩, hm, hb, hb2, q⟩ := h
    refine ⟨_, pss_cons (ps_if (pt_cmpR op_gt (pe_ix (ixL (K := K)) (pv 0) pe_int (fun _ _ => rfl)) pe_int (nomark _))
        (pss_cons (ps_set (i := 2) scTake.nd rfl (Or.inl rfl) (pe_op op_mod (pe_callTy call_int1 (by rfl) B.int (by decide +kernel) (pa_cons (pe_ix (ixL (K := K)) (pv 0) pe_int (fun _ _ => rfl)) pa_nil)) (pv 1)))
        (pss_cons (ps_asg (pe_op op_fdiv (pe_ix (ixL (K := K)) (pv 0) pe_int (fun _ _ => rfl)) (pv 1)) (pg_sub (pv 0) pe_int set_list))
        (pss_one (ps_ret (pv 2))))) pss_nil)
      (pss_cons (ps_asg (pe_op op_add (pe_ix (ixL (K := K)) (pv 0) pe_int (fun _ _ => rfl)) pe_int) (pg_sub (pv 0) pe_int set_list))
      (pss_cons (ps_set (i := 3) scTake.nd rfl (Or.inl rfl) (pe_op op_mod (pe_callTy call_int1 (by rfl) B.int (by decide +kernel) (pa_cons
          (pe_op op_mul (pe_op op_add (pe_ix (ixL (K := K)) (pv 0) pe_int (fun _ _ => rfl)) (pe_op op_mul pe_int (pe_ix (ixL (K := K)) (pv 0) pe_int (fun _ _ => rfl)))) (pe_op op_add pe_int (pe_ix (ixL (K := K)) (pv 0) pe_int (fun _ _ => rfl)))) pa_nil)) pe_int))
      (pss_cons (ps_set (i := 4) scTake.nd rfl (Or.inl rfl) (pe_op op_add (pe_op op_mod (pe_callTy call_int1 (by rfl) B.int (by decide +kernel) (pa_cons (pv 3) pa_nil)) pe_int) pe_int))
      (pss_cons (ps_set (i := 5) scTake.nd rfl (Or.inl rfl) (pe_op op_mod (pe_callTy call_int1 (by rfl) B.int (by decide +kernel) (pa_cons
          (pe_op op_mul (pe_op op_add (pe_op op_add (pv 3) (pe_ix (ixL (K := K)) (pv 0) pe_int (fun _ _ => rfl))) (pe_op op_fdiv (pe_ix (ixL (K := K)) (pv 0) pe_int (fun _ _ => rfl)) pe_int)) (pv 4)) pa_nil)) pe_int))
      (pss_one (ps_ret (pe_op op_mod (pe_callTy call_int1 (by rfl) B.int (by decide +kernel) (pa_cons
          (pe_op op_fdiv (pe_op op_mod (pe_callTy call_int1 (by rfl) B.int (by decide +kernel) (pa_cons (pe_op op_add (pe_op op_mul (pv 5) pe_int) (pv 3)) pa_nil)) pe_int) pe_int) pa_nil)) (pv 1)))))))), ?_⟩
    have nat : ∀ i : Int, ∃ r : Nat, i % (b : Int) = (r : Int) ∧ r < b := fun i => by
      have h1 := Int.emod_nonneg i (show (b : Int) ≠ 0 by omega)
      have h2 := Int.emod_lt_of_pos i (show (0 : Int) < b by omega)
      exact ⟨(i % (b : Int)).toNat, by omega, by omega⟩
    refine ⟨_, rfl, a, _, 0, _, rfl, rfl, SqL.of ha, atI_nat (j := 0) rfl, x, 0, rfl, rfl, _, rfl, ?_⟩
    by_cases hx : x > 0
    · rw [decide_eq_true hx]
      refine iteT ?_
      refine ⟨_, rfl, a, _, 0, _, rfl, rfl, SqL.of ha, atI_nat (j := 0) rfl, .inl ⟨x, rfl, ?_⟩⟩
      refine ⟨_, rfl, x, (b : Int), rfl, rfl, by omega, ?_⟩
      refine ⟨_, rfl, a, _, 0, _, rfl, rfl, SqL.of ha, atI_nat (j := 0) rfl, _, rfl, x, (b : Int), rfl, rfl, ⟨by omega, by omega⟩, ?_⟩
      refine ⟨_, rfl, a, _, 0, 0, rfl, rfl, ha, rfl, ?_⟩
      obtain ⟨r, er, hr⟩ := nat x
      refine ⟨_, rfl, ?_⟩
      show Q (V.int (x % (b : Int))) _
      rw [er]
      exact q r _ (SameX.put (SameX.refl a H)) ⟨x / b, y, z, upd_same, hy0, hy1, hz0, by omega⟩ hr
    · rw [decide_eq_false hx]
      refine iteF ?_
      refine ⟨_, rfl, a, _, 2, _, rfl, rfl, SqL.of ha, atI_nat (j := 2) rfl, z, 1, rfl, rfl, ?_⟩
      refine ⟨_, rfl, a, _, 2, 2, rfl, rfl, ha, rfl, ?_⟩
      have hB : (upd H a (.lst [.int x, .int y, .int (z + 1)])) a = some (.lst [.int x, .int y, .int (z + 1)]) := upd_same
      have sX : SameX a H (upd H a (.lst [.int x, .int y, .int (z + 1)])) := SameX.put (SameX.refl a H)
      have w1 : z + 1 < 2 ^ 40 := by omega
      refine ⟨_, rfl, a, _, 1, _, rfl, rfl, SqL.of hB, atI_nat (j := 1) rfl, _, rfl, a, _, 2, _, rfl, rfl, SqL.of hB, atI_nat (j := 2) rfl, 48271, z + 1, rfl, rfl, .inl ⟨by decide, by decide⟩, y, 48271 * (z + 1), rfl, rfl,
        _, rfl, a, _, 2, _, rfl, rfl, SqL.of hB, atI_nat (j := 2) rfl, 39373, z + 1, rfl, rfl, y + 48271 * (z + 1), 39373 + (z + 1), rfl, rfl, .inr ⟨by omega, by omega⟩, .inl ⟨_, rfl, ?_⟩⟩
      generalize (y + 48271 * (z + 1)) * (39373 + (z + 1)) = i1
      refine ⟨i1, 2147483647, rfl, rfl, (by show (0 : Int) < _; decide), ?_⟩
      have o0 := Int.emod_nonneg i1 (show (2147483647 : Int) ≠ 0 by decide)
      have o1 := Int.emod_lt_of_pos i1 (show (0 : Int) < 2147483647 by decide)
      refine ⟨_, rfl, .inl ⟨_, rfl, i1 % 2147483647, 40009, rfl, rfl, (by show (0 : Int) < _; decide), _, 7, rfl, rfl, ?_⟩⟩
      have d0 := Int.emod_nonneg (i1 % 2147483647) (show (40009 : Int) ≠ 0 by decide)
      have d1 := Int.emod_lt_of_pos (i1 % 2147483647) (show (0 : Int) < 40009 by decide)
      refine ⟨_, rfl, _, rfl, a, _, 2, _, rfl, rfl, SqL.of hB, atI_nat (j := 2) rfl, i1 % 2147483647, z + 1, rfl, rfl, _, rfl, a, _, 1, _, rfl, rfl, SqL.of hB, atI_nat (j := 1) rfl, y, 1000003, rfl, rfl, ⟨by decide, by decide⟩,
        i1 % 2147483647 + (z + 1), y / 1000003, rfl, rfl, _, rfl, i1 % 2147483647 + (z + 1) + y / 1000003, i1 % 2147483647 % 40009 + 7, rfl, rfl, .inr ⟨by omega, by omega⟩, .inl ⟨_, rfl, ?_⟩⟩
      generalize (i1 % 2147483647 + (z + 1) + y / 1000003) * (i1 % 2147483647 % 40009 + 7) = i2
      refine ⟨i2, 2147483629, rfl, rfl, (by show (0 : Int) < _; decide), ?_⟩
      refine ⟨_, rfl, i2 % 2147483629, 48271, rfl, rfl, .inr ⟨by decide, by decide⟩, _, rfl, i2 % 2147483629 * 48271, i1 % 2147483647, rfl, rfl, .inl ⟨_, rfl, i2 % 2147483629 * 48271 + i1 % 2147483647, 2147483587, rfl, rfl, (by show (0 : Int) < _; decide), _, 64, rfl, rfl, ⟨by decide, by decide⟩, .inl ⟨_, rfl, ?_⟩⟩⟩
      generalize (i2 % 2147483629 * 48271 + i1 % 2147483647) % 2147483587 / 64 = i3
      refine ⟨_, rfl, i3, (b : Int), rfl, rfl, by omega, ?_⟩
      obtain ⟨r, er, hr⟩ := nat i3
      show Q (V.int (i3 % (b : Int))) _
      rw [er]
      exact q r _ sX ⟨x, y, z + 1, hB, hy0, hy1, by omega, by omega⟩ hr
end
end Rg

namespace Rg
open PySem PySem.Spec PyProof.Rows L2
theorem cmul_b (i : Int) (b : Bool) : CMul i (if b = true then 1 else 0) := .inr (by cases b <;> exact ⟨by decide, by decide⟩)
section
variable {P : Program} {w : World} {K : PySem.W.Frag} {mg : Str → Option Value} {base : Heap}
/-! ### _law_box -/
theorem scBox : FnScope ["_law_script", "_law_k", "_law_cell"] ["_law_script", "_law_k"] (defScope (topS 29)) := ⟨rfl, rfl, rfl, by decide +kernel, rfl, by decide +kernel, by decide +kernel⟩
def spBox : Sp := fun vs H Q _ => ∃ (a : Addr) (ns : List Int) (k : Nat), vs = [.ref a, vn k] ∧ H a = some (.lst (ns.map V.int)) ∧ k < ns.length ∧ k < 100 ∧ ∀ p H', H p = none → Same H H' → BoxAt H' p 0 → Q (.ref p) H'
theorem has_box (B : Bi mg) (A : At K mg "_law_box" (topS 29)) : Has P w K mg base "_law_box" 1 spBox := by
  refine has_of A scBox (fun _ _ _ _ _ _ us hl => match us, hl with | [_, _], _ => rfl) (fun vs H Q E h => ?_) (fun f cdv A outer s H vs Q E hr h => ?_)
  · obtain ⟨a, ns, k, rfl, _⟩ := h
    rfl
  · obtain ⟨a, ns, k, rfl, ha, hk, hk2, q⟩ := h
    refine ⟨_, pss_cons (ps_set (i := 2) scBox.nd rfl (Or.inl rfl) (pe_ifExp (pt_cmpR op_lt (pv 1) (pe_callB (cLen (K := K)) (by rfl) B.len PySem.boot_len (pa_cons (pv 0) pa_nil)) (nomark _)) (pe_ix (ixL (K := K)) (pv 0) (pv 1) (fun _ _ => rfl)) pe_int))
      (pss_one (ps_ret (pe_lst (pa_cons (pe_op op_mul (pe_callB call_abs (by rfl) B.abs (by decide +kernel) (pa_cons (pv 2) pa_nil)) (pe_callTy call_int1 (by rfl) B.int (by decide +kernel) (pa_cons (pe_cmpR op_ge (pe_callB call_abs (by rfl) B.abs (by decide +kernel) (pa_cons (pv 2) pa_nil)) (pe_op op_pow pe_int pe_int) (nomark _)) pa_nil)))
        (pa_cons (pe_op op_add (pe_op op_add (pe_op op_mod (pe_callTy call_int1 (by rfl) B.int (by decide +kernel) (pa_cons (pv 2) pa_nil)) pe_int) (pe_op op_mul pe_int (pv 1))) pe_int) (pa_cons pe_int pa_nil)))))), ?_⟩
    have hix : (ns.map V.int)[k]? = some (V.int ns[k]) := by rw [List.getElem?_map, List.getElem?_eq_getElem hk]; rfl
    refine ⟨_, rfl, _, rfl, a, _, rfl, .inl (SqL.of ha), (k : Int), _, rfl, rfl, _, rfl, ?_⟩
    rw [List.length_map, decide_eq_true (by omega)]
    refine iteT ⟨_, rfl, _, rfl, a, _, (k : Int), V.int ns[k], rfl, rfl, SqL.of ha, atI_nat hix, ?_⟩
    generalize ns[k] = c
    refine ⟨_, rfl, c, rfl, _, rfl, c, rfl, 10, 18, rfl, rfl, ⟨by decide, by decide, by decide⟩, _, _, rfl, rfl, .inr ⟨_, rfl, ?_⟩⟩
    refine ⟨_, _, rfl, rfl, cmul_b _ _, _, rfl, .inl ⟨c, rfl, c, 2305843009213693951, rfl, rfl, (by show (0 : Int) < _; decide), _, rfl, 39373, (k : Int), rfl, rfl, .inl ⟨by decide, by decide⟩, _, _, rfl, rfl, _, _, rfl, rfl, ?_⟩⟩
    · refine ⟨(by show 3 ≤ sizeLine; decide), fun p np => ?_⟩
      have h0 := Int.emod_nonneg c (show (2305843009213693951 : Int) ≠ 0 by decide)
      have h1 := Int.emod_lt_of_pos c (show (0 : Int) < 2305843009213693951 by decide)
      refine q p _ np (same_new np) ⟨_, _, 0, upd_same, ?_, ?_, Int.le_refl _, Int.le_refl _⟩
      · show (0 : Int) ≤ c % 2305843009213693951 + 39373 * (k : Int) + 86273
        omega
      · show c % 2305843009213693951 + 39373 * (k : Int) + 86273 < 2 ^ 62
        omega
/-! ### _law_of -/
theorem scOf : FnScope ["_law_box_here", "_law_some"] ["_law_box_here", "_law_some"] (defScope (topS 32)) := ⟨rfl, rfl, rfl, by decide +kernel, rfl, by decide +kernel, by decide +kernel⟩
def spOf : Sp := fun vs H Q _ => ∃ (a b : Addr) (m : Nat) (xs : List V), vs = [.ref a, .ref b] ∧ BoxAt H a m ∧ m < 1000000 ∧ b ≠ a ∧ H b = some (.lst xs) ∧ 0 < xs.length ∧ xs.length ≤ 1000 ∧ ∀ (i : Nat) (x : V) H', SameX a H H' → BoxAt H' a (m + 1) → xs[i]? = some x → Q x H'
theorem has_lof (B : Bi mg) (A : At K mg "_law_of" (topS 32)) (hT : Has P w K mg base "_law_take" 1 spTake) : Has P w K mg base "_law_of" 2 spOf := by
  refine has_of A scOf (fun _ _ _ _ _ _ us hl => match us, hl with | [_, _], _ => rfl) (fun vs H Q E h => ?_) (fun f cdv A outer s H vs Q E hr h => ?_)
  · obtain ⟨a, b, m, xs, rfl, _⟩ := h
    rfl
  · obtain ⟨a, b, m, xs, rfl, hB, hm, hne, hb, h0, h1, q⟩ := h
    refine ⟨_, pss_one (ps_ret (pe_ix (ixL (K := K)) (pv 1) (pe_c hT hr (pa_cons (pv 0) (pa_cons (pe_callB (cLen (K := K)) (by rfl) B.len PySem.boot_len (pa_cons (pv 1) pa_nil)) pa_nil))) (fun _ _ => rfl))), ?_⟩
    refine ⟨_, rfl, _, rfl, _, rfl, b, xs, rfl, .inl (SqL.of hb), a, m, xs.length, rfl, hB, hm, h0, by omega, fun r H' sx hB' hr => ?_⟩
    have hx : xs[r]? = some xs[r] := List.getElem?_eq_getElem hr
    exact ⟨b, xs, (r : Int), xs[r], rfl, rfl, SqL.of (sx b _ hne hb), atI_nat hx, q r _ H' sx hB' hx⟩
/-! ### _law_grouped -/
theorem scGrp : FnScope ["_law_box_here", "_law_first_so", "_law_last_so", "_law_way_so", "_law_cut_so"] ["_law_box_here", "_law_first_so", "_law_last_so"] (defScope (topS 34)) := ⟨rfl, rfl, rfl, by decide +kernel, rfl, by decide +kernel, by decide +kernel⟩
def spGrp (d : Nat) : Sp := fun vs H Q _ => ∃ (a : Addr) (m x y : Nat), vs = [.ref a, vn x, vn y] ∧ BoxAt H a m ∧ x ≤ y ∧ y - x < d ∧ y ≤ 100 ∧ m + 2 * (y - x) < 1000000 ∧ ∀ t v H', SameX a H H' → BoxAt H' a (m + 2 * (y - x)) → TAt H' t v → t ∈ every d x y → Q v H'
theorem has_lgrp (A : At K mg "_law_grouped" (topS 34)) (hT : Has P w K mg base "_law_take" 1 spTake) : ∀ d, Has P w K mg base "_law_grouped" (d + 1) (spGrp d)
  | 0 => has_no A (ps := ["_law_box_here", "_law_first_so", "_law_last_so"]) (fun _ _ _ _ _ _ us hl => match us, hl with | [_, _, _], _ => rfl) fun vs H Q E h => by
    obtain ⟨a, m, x, y, _, _, _, h, _⟩ := h
    exact absurd h (Nat.not_lt_zero _)
  | d + 1 => by
    have hS := has_lgrp A hT d
    refine has_of A scGrp (fun _ _ _ _ _ _ us hl => match us, hl with | [_, _, _], _ => rfl) (fun vs H Q E h => ?_) (fun f cdv A outer s H vs Q E hr h => ?_)
    · obtain ⟨a, m, x, y, rfl, _⟩ := h
      rfl
    · obtain ⟨a, m, x, y, rfl, hB, hxy, hd, hy, hm, q⟩ := h
      refine ⟨_, pss_cons (ps_if (pt_cmpR op_eq (pv 1) (pv 2) (nomark _)) (pss_one (ps_ret (pv 1))) pss_nil)
        (pss_cons (ps_set (i := 3) scGrp.nd rfl (Or.inl rfl) (pe_c hT hr (pa_cons (pv 0) (pa_cons pe_int pa_nil)) (by omega)))
        (pss_cons (ps_set (i := 4) scGrp.nd rfl (Or.inl rfl) (pe_op op_add (pv 1) (pe_c hT hr (pa_cons (pv 0) (pa_cons (pe_op op_sub (pv 2) (pv 1)) pa_nil)) (by omega))))
        (pss_cons (ps_if (pt_cmpR op_eq (pv 3) pe_int (nomark _)) (pss_one (ps_set (i := 4) scGrp.nd rfl (Or.inl rfl) (pe_op op_sub (pv 2) pe_int))) pss_nil)
        (pss_cons (ps_if (pt_cmpR op_eq (pv 3) pe_int (nomark _)) (pss_one (ps_set (i := 4) scGrp.nd rfl (Or.inl rfl) (pv 1))) pss_nil)
        (pss_one (ps_ret (pe_tup (pa_cons (pe_c hS hr (pa_cons (pv 0) (pa_cons (pv 1) (pa_cons (pv 4) pa_nil))) (by omega)) (pa_cons (pe_c hS hr (pa_cons (pv 0) (pa_cons (pe_op op_add (pv 4) pe_int) (pa_cons (pv 2) pa_nil))) (by omega)) pa_nil))))))))), ?_⟩
      have vne : ∀ {i j : Int}, i ≠ j → decide (V.int i = V.int j) = false := fun h => decide_eq_false fun z => by injection z with z; exact h z
      by_cases e : x = y
      · refine ⟨_, rfl, _, rfl, rfl, _, rfl, ?_⟩
        rw [decide_eq_true (by rw [e])]
        refine iteT ⟨_, rfl, q (.leaf x) _ H (SameX.refl a H) (hB.up (Nat.le_add_right _ _)) rfl ?_⟩
        show _ ∈ (if x = y then _ else _)
        rw [if_pos e]
        exact List.mem_singleton_self _
      · refine ⟨_, rfl, _, rfl, rfl, _, rfl, ?_⟩
        rw [show decide (vn x = vn y) = false from vne (by omega)]
        refine iteF ?_
        refine ⟨_, rfl, a, m, 4, rfl, hB, by omega, by decide, by decide, fun w1 H1 x1 hB1 hw1 => ?_⟩
        refine ⟨_, rfl, _, rfl, _, rfl, _, rfl, (y : Int), (x : Int), rfl, rfl, a, m + 1, y - x, ?_, hB1, by omega, by omega, by omega, fun r H2 x2 hB2 hr2 => ?_⟩
        · show [V.ref a, V.int ((y : Int) - (x : Int))] = [V.ref a, V.int ((y - x : Nat) : Int)]
          rw [show (y : Int) - (x : Int) = ((y - x : Nat) : Int) by omega]
        have x12 := x1.trans x2
        refine ⟨(x : Int), (r : Int), rfl, rfl, ?_⟩
        -- the cut, whichever way
        have fin : ∀ (c : Nat) (v : V), v = vn c → x ≤ c → c < y → tTup (tCons (tCall (spGrp d) [] E0 (tCons (tVar 0) (tCons (tVar 1) (tCons (tVar 4) tNil)))) (tCons (tCall (spGrp d) [] E0 (tCons (tVar 0) (tCons (tOp (rI0 fun i j => V.int (i + j)) (tVar 4) (tC (V.int 1))) (tCons (tVar 2) tNil)))) tNil))
            [some (.ref a), some (vn x), some (vn y), some (vn w1), some v] H2 Q := fun c v ev hc1 hc2 => by
          subst ev
          refine ⟨_, rfl, _, rfl, _, rfl, a, m + 2, x, c, rfl, hB2, hc1, by omega, by omega, by omega, fun l vl H3 x3 hB3 hl ml => ?_⟩
          refine ⟨_, rfl, _, rfl, (c : Int), 1, rfl, rfl, _, rfl, a, m + 2 + 2 * (c - x), c + 1, y, rfl, hB3, by omega, by omega, by omega, by omega, fun t vt H4 x4 hB4 ht mt => ⟨by show 2 ≤ sizeLine; decide, fun p np => ?_⟩⟩
          have s5 := same_new (o := .tup [vl, vt]) np
          refine q (.node l t) _ _ ((x12.trans (x3.trans x4)).then s5) ((hB4.up (by omega)).mono s5) ⟨p, vl, vt, rfl, upd_same, (hl.tup (hB3.tup x4)).mono s5, ht.mono s5⟩ ?_
          show T.node l t ∈ (if x = y then _ else _)
          rw [if_neg e]
          refine List.mem_flatMap.mpr ⟨c - x, List.mem_range.mpr (by omega), List.mem_flatMap.mpr ⟨l, by rw [show x + (c - x) = c by omega]; exact ml, List.mem_map.mpr ⟨t, by rw [show x + (c - x) + 1 = c + 1 by omega]; exact mt, rfl⟩⟩⟩
        have vq : ∀ (i j : Nat), decide (vn i = V.int (j : Int)) = decide (i = j) := fun i j => decide_eq_decide.mpr ⟨(fun z => by have z : V.int (i : Int) = V.int (j : Int) := z; injection z with z; omega), (fun z => by rw [z]; rfl)⟩
        refine ⟨_, rfl, rfl, _, rfl, ?_⟩
        rw [show decide (vn w1 = V.int 0) = decide (w1 = 0) from vq w1 0]
        by_cases hw0 : w1 = 0
        · rw [decide_eq_true hw0]
          refine iteT ⟨_, rfl, (y : Int), 1, rfl, rfl, ?_⟩
          refine ⟨_, rfl, rfl, _, rfl, ?_⟩
          rw [show decide (vn w1 = V.int 1) = decide (w1 = 1) from vq w1 1, decide_eq_false (by omega)]
          exact iteF (fin (y - 1) _ (show V.int ((y : Int) - 1) = V.int ((y - 1 : Nat) : Int) by rw [show (y : Int) - 1 = ((y - 1 : Nat) : Int) by omega]) (by omega) (by omega))
        · rw [decide_eq_false hw0]
          refine iteF ⟨_, rfl, rfl, _, rfl, ?_⟩
          rw [show decide (vn w1 = V.int 1) = decide (w1 = 1) from vq w1 1]
          by_cases hw1 : w1 = 1
          · rw [decide_eq_true hw1]
            exact iteT ⟨_, rfl, fin x _ rfl (Nat.le_refl _) (by omega)⟩
          · rw [decide_eq_false hw1]
            exact iteF (fin (x + r) _ rfl (by omega) (by omega))
end
end Rg

namespace Rg
open PySem PySem.Spec PyProof.Rows L2
theorem trees_dp {K : PySem.W.Frag} {H : Hp} : ∀ {ts : List T} {xs : List V}, Paired (TAt H) ts xs → DpAll K H xs (ts.map T.d)
  | _, _, .nil => .nil
  | _, _, .cons h t => .cons h.dp (trees_dp t)
theorem trees_lay : ∀ ts : List T, PyData.canLayAll0 (ts.map T.d) = true
  | [] => rfl
  | t :: ts => by
    simp only [List.map_cons, PyData.canLayAll0, T.d_lay t, trees_lay ts, Bool.and_self]
theorem trees_depth : ∀ ts : List T, (∀ t ∈ ts, t.ht ≤ 50) → PyData.depthAll (ts.map T.d) ≤ 52
  | [], _ => by simp [PyData.depthAll]
  | t :: ts, h => by
    have h1 := T.d_depth t
    have h2 := trees_depth ts fun u hu => h u (List.mem_cons_of_mem _ hu)
    have h3 := h t (List.mem_cons_self ..)
    simp only [List.map_cons, PyData.depthAll]
    omega
theorem trees_shaped {ts : List T} (h : ∀ t ∈ ts, t.ht ≤ 50) : SeqAt.shaped (.list (ts.map T.d)) = true := by
  unfold SeqAt.shaped
  rw [Bool.and_eq_true]
  refine ⟨by simp only [PyData.canLay0, trees_lay], decide_eq_true ?_⟩
  have := trees_depth ts h
  simp only [PyData.depth]
  omega
theorem ints_cut (ns : List Int) (lo hi : Option Int) : ∃ ms : List Int, cutV (ns.map V.int) lo hi = ms.map V.int := by
  unfold cutV
  exact ⟨_, by rw [← List.map_drop, ← List.map_take]⟩
section
variable {P : Program} {w : World} {K : PySem.W.Frag} {mg : Str → Option Value} {base : Heap}
/-! ### _law_pushed -/
theorem scPush : FnScope ["_law_box_here", "_law_tree_so", "_law_most_so", "_law_here", "_law_lap", "_law_nexts_so"] ["_law_box_here", "_law_tree_so", "_law_most_so"] (defScope (topS 41)) := ⟨rfl, rfl, rfl, by decide +kernel, rfl, by decide +kernel, by decide +kernel⟩
def spPush : Sp := fun vs H Q _ => ∃ (a : Addr) (m : Nat) (t : T) (v : V) (G : T → Prop), vs = [.ref a, v, vn 8] ∧ BoxAt H a m ∧ m + 20 < 1000000 ∧ TAt H t v ∧ G t ∧ (∀ u, G u → u.ht < 8 ∧ u.reach.length ≤ 100 ∧ ∀ u' ∈ u.after, G u') ∧
  ∀ t' v' H', SameX a H H' → BoxAt H' a (m + 10) → TAt H' t' v' → G t' → Q v' H'
theorem has_push (B : Bi mg) (A : At K mg "_law_pushed" (topS 41)) (hT : Has P w K mg base "_law_take" 1 spTake) (hAf : Has P w K mg base "_law_after" 8 (spAfter 8)) (hO : Has P w K mg base "_law_of" 2 spOf) : Has P w K mg base "_law_pushed" 9 spPush := by
  refine has_of A scPush (fun _ _ _ _ _ _ us hl => match us, hl with | [_, _, _], _ => rfl) (fun vs H Q E h => ?_) (fun f cdv A outer s H vs Q E hr h => ?_)
  · obtain ⟨a, m, t, v, G, rfl, _⟩ := h
    rfl
  · obtain ⟨a, m, t, v, G, rfl, hB, hm, ht, hG, hcl, q⟩ := h
    refine ⟨_, pss_cons (ps_set (i := 3) scPush.nd rfl (Or.inl rfl) (pv 1))
      (pss_cons (ps_for PassesOwn.never rfl (pi_range1 (by rfl) B.range (pa_cons (pe_c hT hr (pa_cons (pv 0) (pa_cons (pe_op op_add (pv 2) pe_int) pa_nil))) pa_nil)) (pg_name (i := 4) scPush.nd rfl (Or.inl rfl))
        (pss_cons (ps_set (i := 5) scPush.nd rfl (Or.inl rfl) (pe_c hAf hr (pa_cons (pv 3) pa_nil)))
        (pss_one (ps_set (i := 3) scPush.nd rfl (Or.inl rfl) (pe_ifExp (pt_cmpR (opNeD (K := K) hr.units) (pv 5) (pe_lst pa_nil) (nomark _)) (pe_c hO hr (pa_cons (pv 0) (pa_cons (pv 5) pa_nil))) (pv 3))))))
      (pss_one (ps_ret (pv 3)))), ?_⟩
    refine ⟨_, rfl, ?_⟩
    refine ⟨_, rfl, _, rfl, 8, 1, rfl, rfl, a, m, 9, rfl, hB, by omega, by decide, by decide, fun r H1 x1 hB1 hr1 => ?_⟩
    refine ⟨(r : Int), rfl, by omega, by omega, ?_⟩
    have er : ((r : Int)).toNat = r := by omega
    rw [er]
    refine for_it (walk_range (lo := (0 : Int)) (n := r)) (fun i σ H' => ∃ (u : T) (vu : V) (y4 y5 : Option V), σ = [some (.ref a), some v, some (vn 8), some vu, y4, y5] ∧ SameX a H H' ∧ BoxAt H' a (m + 1 + i) ∧ TAt H' u vu ∧ G u)
      ⟨t, v, none, none, rfl, x1, hB1, ht.tup (hB.tup x1), hG⟩ (fun _ _ _ _ _ => trivial) (fun i x σ H2 H3 hi p yv => ?_) (fun σ H2 p => ?_)
    · obtain ⟨rfl, rfl⟩ := yv
      obtain ⟨u, vu, y4, y5, rfl, q1, q2, q3, q4⟩ := p
      obtain ⟨hu1, hu2, hu3⟩ := hcl u q4
      refine ⟨_, rfl, u, vu, rfl, q3, hu1, hu2, fun pl xs H4 npl s4 h4 d4 => ?_⟩
      have hll : xs.length ≤ 100 := by
        rw [← d4.length]
        have := T.after_len u
        omega
      refine ⟨_, rfl, Nat.zero_le _, fun pe npe => ?_⟩
      have s5 := same_new (o := .lst []) npe
      have s45 := s4.trans s5
      have d5 := pairedMap (fun _ _ h => TAt.mono s5 h) d4
      have h5 := s5 _ _ h4
      refine ⟨.list (u.after.map T.d), .list [], .lst (SqL.of h5) (trees_dp d5), .lst (SqL.of upd_same) .nil, trees_shaped (fun t ht => by have := (hcl t (hu3 t ht)).1; omega), rfl, _, rfl, ?_⟩
      have hpa : pl ≠ a := fun z => by
        obtain ⟨_, _, _, hb, _⟩ := q2
        rw [z, hb] at npl
        cases npl
      cases hua : u.after with
      | nil =>
        refine iteF ⟨_, rfl, u, vu, _, _, rfl, q1.then s45, (q2.mono s45).up (by omega), q3.mono s45, q4⟩
      | cons u0 us =>
        refine iteT ?_
        rw [hua] at d5
        have hx0 : 0 < xs.length := by rw [← d5.length]; exact Nat.succ_pos _
        refine ⟨_, rfl, _, rfl, a, pl, m + 1 + i, xs, rfl, q2.mono s45, by omega, hpa, h5, hx0, by omega, fun j z H6 x6 hB6 hz => ?_⟩
        obtain ⟨t', ht1, ht2⟩ := pairedGet d5 hz
        exact ⟨t', z, _, _, rfl, (q1.then s45).trans x6, hB6.up (by omega), ht2.tup ((q2.mono s45).tup x6), hu3 t' (by rw [hua]; exact List.mem_of_getElem? ht1)⟩
    · obtain ⟨u, vu, y4, y5, rfl, q1, q2, q3, q4⟩ := p
      exact ⟨_, rfl, q u vu H2 q1 (q2.up (by omega)) q3 q4⟩
/-! ### _law_cells -/
theorem scCells : FnScope ["_law_script", "_law_most_so", "_law_cells_here", "_law_k", "_law_cell", "_law_at_so"] ["_law_script", "_law_most_so"] (defScope (topS 31)) := ⟨rfl, rfl, rfl, by decide +kernel, rfl, by decide +kernel, by decide +kernel⟩
def spCells (K : PySem.W.Frag) : Sp := fun vs H Q _ => ∃ (a : Addr) (ns : List Int), vs = [.ref a, vn 2] ∧ SqL K H a (ns.map V.int) ∧ ns.length ≤ 100 ∧ ∀ p (ms : List Int) H', Same H H' → H' p = some (.lst (ms.map V.int)) → 0 < ms.length → ms.length ≤ 2 → Q (.ref p) H'
theorem cells_start {σ : L2.St} {H1 : Hp} {Q : VK} {ms : List Int} {p2 : Addr} (h : H1 p2 = some (.lst (ms.map V.int))) (k : ∀ pc (cs : List Int) H3, Same H1 H3 → H3 pc = some (.lst (cs.map V.int)) → (pc = p2 ∨ H1 pc = none) → (cs = ms ∧ 0 < ms.length ∨ (ms = [] ∧ cs = [0])) → Q (.ref pc) H3) :
    ∃ k, TruV K (.ref p2) H1 k ∧ if k = true then Q (.ref p2) H1 else tLst (tCons (tC (V.int 0)) tNil) σ H1 Q := by
  refine ⟨!(ms.map V.int).isEmpty, .inl ⟨_, SqL.of h, rfl⟩, ?_⟩
  cases ms with
  | nil => exact iteF ⟨by show 1 ≤ sizeLine; decide, fun p3 np3 => k p3 [0] _ (same_new np3) upd_same (.inr np3) (.inr ⟨rfl, rfl⟩)⟩
  | cons m ms => exact iteT (k p2 _ H1 (Same.refl _) h (.inl rfl) (.inl ⟨rfl, Nat.succ_pos _⟩))
theorem has_cells (B : Bi mg) (A : At K mg "_law_cells" (topS 31)) : Has P w K mg base "_law_cells" 1 (spCells K) := by
  refine has_of A scCells (fun _ _ _ _ _ _ us hl => match us, hl with | [_, _], _ => rfl) (fun vs H Q E h => ?_) (fun f cdv A outer s H vs Q E hr h => ?_)
  · obtain ⟨a, ns, rfl, _⟩ := h
    rfl
  · obtain ⟨a, ns, rfl, ha, hn, q⟩ := h
    refine ⟨_, pss_cons (ps_set (i := 2) scCells.nd rfl (Or.inl rfl) (pe_orT (pe_callTy call_list_of (by rfl) B.list (by decide +kernel) (pa_cons (pe_slice (slL (K := K)) (pv 0) po_none (po_some (pv 1))) pa_nil)) (pe_one (pe_lst (pa_cons pe_int pa_nil)))))
      (pss_cons (ps_for PassesOwn.never rfl (pi_enum (by rfl) B.enumerate (pa_cons (pe_slice (slL (K := K)) (pv 0) (po_some (pv 1)) (po_some pe_int)) pa_nil)) (pg_tup (by rfl) (pgs_cons (pg_name (i := 3) scCells.nd rfl (Or.inl rfl)) (pgs_cons (pg_name (i := 4) scCells.nd rfl (Or.inl rfl)) pgs_nil)))
        (pss_cons (ps_set (i := 5) scCells.nd rfl (Or.inl rfl) (pe_op op_mod (pe_callTy call_int1 (by rfl) B.int (by decide +kernel) (pa_cons (pv 3) pa_nil)) (pv 1)))
        (pss_one (ps_asg (pe_op op_add (pe_ix (ixL (K := K)) (pv 2) (pv 5) (fun _ _ => rfl)) (pe_op op_mul (pv 4) (pe_op op_add (pv 3) pe_int))) (pg_sub (pv 2) (pv 5) set_list)))))
      (pss_one (ps_ret (pv 2)))), ?_⟩
    obtain ⟨ms, ems⟩ := ints_cut ns none (some 2)
    refine ⟨_, rfl, _, rfl, _, rfl, a, _, rfl, ha, fun p1 np1 => ?_⟩
    have s1 := same_new (o := .lst (cutV (ns.map V.int) none (some 2))) np1
    refine ⟨p1, _, rfl, .inl (SqL.of upd_same), fun p2 np2 => ?_⟩
    have s2 := same_new (o := .lst (cutV (ns.map V.int) none (some 2))) np2
    have n2 : H p2 = none := none_backs s1 np2
    have h2 : (upd (upd H p1 (.lst (cutV (ns.map V.int) none (some 2)))) p2 (.lst (cutV (ns.map V.int) none (some 2)))) p2 = some (.lst (ms.map V.int)) := by rw [upd_same, ems]
    have s12 := s1.trans s2
    have lms : ms.length = min 2 ns.length := by
      have := congrArg List.length ems
      rw [List.length_map] at this
      rw [← this]
      unfold cutV
      rw [List.length_take, List.length_drop, List.length_map]
      show min (min 2 ns.length - 0) (ns.length - 0) = _
      omega
    refine cells_start h2 fun pc cs H3 s3 h3 hpc hcs => ?_
    have s03 := s12.trans s3
    have nc : H pc = none := by
      rcases hpc with e | e
      · rw [e]; exact n2
      · exact none_backs s12 e
    have hc0 : 0 < cs.length := by
      rcases hcs with ⟨e, h⟩ | ⟨_, e⟩
      · rw [e]; exact h
      · rw [e]; decide
    have hc2 : cs.length ≤ 2 := by
      rcases hcs with ⟨e, h⟩ | ⟨_, e⟩
      · rw [e, lms]; omega
      · rw [e]; decide
    have hc3 : 2 < ns.length → cs.length = 2 := fun h => by
      rcases hcs with ⟨e, _⟩ | ⟨e, _⟩
      · rw [e, lms]; omega
      · rw [e] at lms; simp at lms; omega
    -- the rest of the script
    obtain ⟨ks, eks⟩ := ints_cut ns (some 2) (some 63)
    refine ⟨_, rfl, _, rfl, _, rfl, _, rfl, a, _, rfl, s03.seq ha, fun p4 np4 => ⟨p4, _, rfl, SqL.of upd_same, ?_⟩⟩
    have s4 := same_new (o := .lst (cutV (ns.map V.int) (some 2) (some 63))) np4
    have lks : (cutV (ns.map V.int) (some 2) (some 63)).length ≤ ns.length - 2 := by
      unfold cutV
      rw [List.length_take, List.length_drop, List.length_map]
      show min _ (ns.length - min 2 ns.length) ≤ _
      omega
    have h4 : (upd H3 p4 (.lst (cutV (ns.map V.int) (some 2) (some 63)))) p4 = some (.lst (cutV (ns.map V.int) (some 2) (some 63))) := upd_same
    have s04 := s03.trans s4
    have h34 := s4 _ _ h3
    generalize (upd H3 p4 (.lst (cutV (ns.map V.int) (some 2) (some 63)))) = H4 at s4 h4 s04 h34
    have hpp : p4 ≠ pc := fun z => by rw [z, h3] at np4; cases np4
    refine for_it (walk_enum (K := K) (a := p4) (xs := cutV (ns.map V.int) (some 2) (some 63))) (fun i σ H' => ∃ (cs : List Int) (y3 y4 y5 : Option V), σ = [some (.ref a), some (vn 2), some (.ref pc), y3, y4, y5] ∧ Same H H' ∧ H' p4 = some (.lst (cutV (ns.map V.int) (some 2) (some 63))) ∧
        H' pc = some (.lst (cs.map V.int)) ∧ 0 < cs.length ∧ cs.length ≤ 2 ∧ (2 < ns.length → cs.length = 2))
      ⟨cs, none, none, none, rfl, s04, h4, h34, hc0, hc2, hc3⟩ (fun i σ H' _ p => by obtain ⟨_, _, _, _, _, _, q2, _⟩ := p; exact SqL.of q2) (fun i z σ H5 H6 hi p yv => ?_) (fun σ H5 p => ?_)
    · obtain ⟨ds, y3, y4, y5, rfl, q1, q2, q3, q4, q5, q6⟩ := p
      obtain ⟨Tp, u, v, rfl, nT, rfl, hu, hv⟩ := yv
      cases hu
      have hlen : ds.length = 2 := q6 (by omega)
      obtain ⟨c, rfl⟩ : ∃ c : Int, v = .int c := by
        have hv : (cutV (ns.map V.int) (some 2) (some 63))[i]? = some v := hv
        rw [eks, List.getElem?_map] at hv
        obtain ⟨c, _, e⟩ := Option.map_eq_some_iff.mp hv
        exact ⟨c, e.symm⟩
      have sT := same_new (o := .tup [V.int (i : Nat), V.int c]) nT
      have q2' := sT _ _ q2
      have q3' := sT _ _ q3
      obtain ⟨j, ej, hj⟩ : ∃ j : Nat, ((i : Nat) : Int) % 2 = (j : Int) ∧ j < 2 := ⟨i % 2, by omega, by omega⟩
      have hix : (ds.map V.int)[j]? = some (V.int ds[j]) := by rw [List.getElem?_map, List.getElem?_eq_getElem (by omega)]; rfl
      refine g2 upd_same ?_
      refine ⟨_, rfl, .inl ⟨(i : Int), rfl, _, rfl, (i : Int), 2, rfl, rfl, (by show (0 : Int) < _; decide), ?_⟩⟩
      refine ⟨_, rfl, _, rfl, pc, _, (j : Int), V.int ds[j], rfl, congrArg V.int ej, SqL.of q3', atI_nat hix, _, rfl, _, rfl, (i : Int), 2, rfl, rfl, c, (i : Int) + 2, rfl, rfl, .inr ⟨by omega, ?_⟩, ds[j], c * ((i : Int) + 2), rfl, rfl, ?_⟩
      · have : i < (cutV (ns.map V.int) (some 2) (some 63)).length := hi
        omega
      · refine ⟨_, rfl, _, rfl, pc, _, (j : Int), j, rfl, congrArg V.int ej, q3', ?_, ?_⟩
        · rw [List.length_map, hlen]
          unfold ixN
          rw [if_pos (by omega), if_pos (by omega)]
          rfl
        · have e : (ds.map V.int).set j (V.int (ds[j] + c * ((i : Int) + 2))) = (ds.set j (ds[j] + c * ((i : Int) + 2))).map V.int := by rw [List.map_set]
          refine ⟨ds.set j (ds[j] + c * ((i : Int) + 2)), _, _, _, rfl, Same.mut (q1.trans sT) nc, ?_, ?_, by rw [List.length_set]; exact q4, by rw [List.length_set]; exact q5, by rw [List.length_set]; exact q6⟩
          · rw [upd_ne hpp]
            exact q2'
          · rw [upd_same]
            exact congrArg (fun z => some (HO.lst z)) e
    · obtain ⟨ds, y3, y4, y5, rfl, q1, q2, q3, q4, q5, q6⟩ := p
      exact ⟨_, rfl, q pc ds H5 q1 q3 q4 q5⟩
end
end Rg

namespace Rg
open PySem PySem.Spec PyProof.Rows L2
theorem look_at {β : Type} {d : List (List Nat × β)} {r : List Nat} {x : β} (h : look d r = some x) : ∃ p ∈ d, p.1 = r ∧ p.2 = x := by
  unfold look at h
  obtain ⟨p, hp, e⟩ := Option.map_eq_some_iff.mp h
  exact ⟨p, List.mem_of_find?_eq_some hp, eqL_iff.mp (by have q := List.find?_some hp; exact q), e⟩
theorem look_putL {β : Type} (r : List Nat) (x : β) : ∀ d : List (List Nat × β), look (putL d r x) r = some x := by
  have h1 : ∀ d : List (List Nat × β), (d.any fun p => eqL p.1 r) = true → look (d.map fun p => if eqL p.1 r then (p.1, x) else p) r = some x := by
    intro d
    induction d with
    | nil => intro h; cases h
    | cons p d ih =>
      intro h
      unfold look at *
      rw [List.map_cons, List.find?_cons]
      cases hp : eqL p.1 r with
      | true =>
        have e : eqL (if true = true then (p.1, x) else p).1 r = true := hp
        rw [e]
        rfl
      | false =>
        have e : eqL (if false = true then (p.1, x) else p).1 r = false := hp
        rw [e]
        rw [List.any_cons, hp, Bool.false_or] at h
        exact ih h
  have h2 : ∀ d : List (List Nat × β), (d.any fun p => eqL p.1 r) = false → look (d ++ [(r, x)]) r = some x := by
    intro d
    induction d with
    | nil =>
      intro _
      unfold look
      rw [List.nil_append, List.find?_cons, eqL_iff.mpr rfl]
      rfl
    | cons p d ih =>
      intro h
      unfold look at *
      rw [List.any_cons, Bool.or_eq_false_iff] at h
      rw [List.cons_append, List.find?_cons, h.1]
      exact ih h.2
  intro d
  unfold putL
  cases h : d.any fun p => eqL p.1 r with
  | true => exact h1 d h
  | false => exact h2 d h
/-- the groupings of one size, taken all together -/
structure DomP (E : List T) (M : Nat) : Prop where
  ht : ∀ s ∈ E, s.ht < 8
  len : ∀ s ∈ E, s.reach.length ≤ 100
  leq : ∀ s ∈ E, ∀ t ∈ E, s.reach.length = t.reach.length
  inj : ∀ s ∈ E, ∀ t ∈ E, s.reach = t.reach → s = t
  aft : ∀ s ∈ E, ∀ x ∈ s.after, x ∈ E ∧ s.reach.sum < x.reach.sum
  hi : ∀ s ∈ E, s.reach.sum ≤ M
  lo : ∀ s ∈ E, M + 1 - s.reach.sum ≤ 11
  few : ∀ s ∈ E, s.after.length ≤ 4
  rec_ : ∀ s ∈ E, ∀ t ∈ E, goes s t = true → onF 12 s t = onF 13 s t
  push : ∀ s ∈ E, ∀ t ∈ E, goes s t = true → ∀ x ∈ t.after, goes s x = true
/-- how many entries a count may leave behind -/
def Bd : Nat → Nat
  | 0 => 0
  | d + 1 => 4 * Bd d + 1
def Memo (E : List T) (t : T) (F : List (List Nat × Nat)) : Prop := ∀ p ∈ F, ∃ s ∈ E, s.reach = p.1 ∧ p.2 = onF 12 s t
theorem SameX.tup' {p : Addr} {H H' : Hp} (a : SameX p H H') {kvs : List (List L2.Key × V)} (hp : H p = some (.dT kvs)) : TupEx H H' := fun b xs e => a b _ (ne_of e hp (fun z => nomatch z)) e
section
variable {P : Program} {w : World} {K : PySem.W.Frag} {mg : Str → Option Value} {base : Heap}
theorem scLOn : FnScope ["_law_tree_so", "_law_its", "_law_known_so", "_law_arms_so", "_law_own"] ["_law_tree_so", "_law_its", "_law_known_so"] (defScope (topS 42)) := ⟨rfl, rfl, rfl, by decide +kernel, rfl, by decide +kernel, by decide +kernel⟩
def spCnt (d : Nat) : Sp := fun vs H Q _ => ∃ (E : List T) (M : Nat) (s t : T) (x y : V) (pk : Addr) (F : List (List Nat × Nat)), vs = [x, y, .ref pk] ∧ DomP E M ∧ s ∈ E ∧ t ∈ E ∧ goes s t = true ∧ M + 1 - s.reach.sum ≤ d ∧ TAt H s x ∧ TAt H t y ∧ H pk = some (.dT (F.map (rKV vn))) ∧ Memo E t F ∧
  F.length + Bd d ≤ 10000000 ∧ ∀ H' F', SameX pk H H' → H' pk = some (.dT (F'.map (rKV vn))) → Memo E t F' → F'.length ≤ F.length + Bd d → Q (vn (onF 12 s t)) H'
theorem has_lon (B : Bi mg) (A : At K mg "_law_on" (topS 42)) (hAr : Has P w K mg base "_law_arms" 10 spReaches) (hAf : Has P w K mg base "_law_after" 8 (spAfter 8)) (hGo : Has P w K mg base "_law_goes" 11 spGoes) : ∀ d, Has P w K mg base "_law_on" (d + 11) (spCnt d)
  | 0 => has_no A (ps := ["_law_tree_so", "_law_its", "_law_known_so"]) (fun _ _ _ _ _ _ us hl => match us, hl with | [_, _, _], _ => rfl) fun vs H Q E h => by
    obtain ⟨D, M, s, t, x, y, pk, F, _, hD, hs, _, _, hm, _⟩ := h
    have := hD.hi s hs
    omega
  | d + 1 => by
    have hS := has_lon B A hAr hAf hGo d
    refine has_of A scLOn (fun _ _ _ _ _ _ us hl => match us, hl with | [_, _, _], _ => rfl) (fun vs H Q E h => ?_) (fun f cdv Ar outer sh H vs Q E hr h => ?_)
    · obtain ⟨D, M, s, t, x, y, pk, F, rfl, _⟩ := h
      rfl
    · obtain ⟨D, M, s, t, x, y, pk, F, rfl, hD, hs, ht, hg, hm, hx, hy, hk, hF, hB, q⟩ := h
      have hun := hr.units
      have hun1 : (Ar.deeper (envOfC "_law_on" (defScope (topS 42)) sh.heap.objs.size f cdv)).units + 1 < cLine := Nat.lt_of_le_of_lt (Nat.add_le_add_left (by decide) _) hun
      refine ⟨_, pss_cons (ps_if (pt_cmpR (opEqD (K := K) hun) (pv 0) (pv 1) (nomark _)) (pss_one (ps_ret pe_int)) pss_nil)
        (pss_cons (ps_set (i := 3) scLOn.nd rfl (Or.inl rfl) (pe_c hAr hr (pa_cons (pv 0) pa_nil) (by omega)))
        (pss_cons (ps_if (pt_cmp (pc_dnotin hun1 (pv 3) (pv 2)) rfl) (pss_one (ps_dput hun1 (pv 2) (pv 3) (pe_callB (cSum (K := K)) (by rfl) B.sum (by decide +kernel) (pa_cons
            (pe_lc (own := [("_law_own", 4)]) (g := gName 4) (by rfl) scLOn.nd (pi_list (pe_c hAf hr (pa_cons (pv 0) pa_nil) (by omega)))
              (blkOk_by (own := [("_law_own", 4)]) (N := ["_law_tree_so", "_law_its", "_law_known_so", "_law_arms_so", "_law_own"]) (sc := defScope (topS 42)) (by decide +kernel))
              (fun _ _ _ _ _ => pg_name (i := 4) scLOn.nd rfl (Or.inl rfl)) (fun _ _ _ _ _ => pts_one (pt_val (pe_c hGo hr (pa_cons (pv 4) (pa_cons (pv 1) pa_nil)) (by omega))))
              (fun _ _ _ _ _ => pe_c hS hr (pa_cons (pv 4) (pa_cons (pv 1) (pa_cons (pv 2) pa_nil))) (by omega))) pa_nil)) (by rfl))) pss_nil)
        (pss_one (ps_ret (pe_dget hun1 (pv 2) (pv 3) (fun _ _ => rfl)))))), ?_⟩
      have h60 : ∀ u ∈ D, u.ht ≤ 60 := fun u hu => by have := hD.ht u hu; omega
      have e13 : onF 12 s t = if eqL s.reach t.reach then 1 else ((s.after.filter fun x => goes x t).map fun x => onF 12 x t).sum := (hD.rec_ s hs t ht hg).trans rfl
      have eeq : decide (s = t) = eqL s.reach t.reach := by
        rw [eqL_dec]
        exact decide_eq_decide.mpr ⟨fun e => by rw [e], fun e => hD.inj s hs t ht e⟩
      refine ⟨_, rfl, _, rfl, s.d, t.d, hx.dp, hy.dp, T.d_shaped (h60 s hs), T.d_shaped (h60 t ht), _, rfl, ?_⟩
      rw [T.d_eqv, eeq]
      cases hst : eqL s.reach t.reach with
      | true =>
        rw [hst, if_pos rfl] at e13
        refine iteT ?_
        have := q H F (SameX.refl pk H) hk hF (Nat.le_add_right _ _)
        rw [e13] at this
        exact this
      | false =>
        rw [hst, if_neg (by decide)] at e13
        refine iteF ⟨_, rfl, s, x, rfl, hx, hD.ht s hs, hD.len s hs, fun pa H1 s1 ha1 => ?_⟩
        have hk1 := s1 _ _ hk
        refine ⟨_, rfl, _, rfl, pk, _, rfl, DGet.t hk1 (by rw [rk_vals]; exact ha1), ?_⟩
        rw [look_val]
        cases hlk : look F s.reach with
        | some c =>
          obtain ⟨p, hp, ep1, ep2⟩ := look_at hlk
          obtain ⟨s0, hs0, e1, e2⟩ := hF p hp
          have es : s0 = s := hD.inj s0 hs0 s hs (e1.trans ep1)
          have ec : c = onF 12 s t := by rw [← ep2, e2, es]
          refine ⟨_, rfl, iteF ⟨_, rfl, _, rfl, pk, vn c, rfl, ?_, ?_⟩⟩
          · have := DGet.t (k := rk s.reach) hk1 (show H1 pa = some (.tup ((rk s.reach).map kV)) by rw [rk_vals]; exact ha1)
            rw [look_val, hlk] at this
            exact this
          · rw [ec]
            exact q H1 F (fun b u _ e => s1 b u e) hk1 hF (Nat.le_add_right _ _)
        | none =>
          refine ⟨_, rfl, iteT ?_⟩
          refine ⟨x, rfl, s, x, rfl, hx.mono s1, hD.ht s hs, hD.len s hs, fun pl xs H2 np2 s2 h2 d2 => ⟨pl, rfl, ⟨_, SqL.of h2⟩, fun Dl hDl => ?_⟩⟩
          have s12 := s1.trans s2
          have hk2 := s12 _ _ hk
          have npk : pl ≠ pk := fun z => by rw [z, hk1] at np2; cases np2
          have nDk : Dl ≠ pk := fun z => by rw [z, hk2] at hDl; cases hDl
          have nDl : Dl ≠ pl := fun z => by rw [z, h2] at hDl; cases hDl
          have hxl : xs.length = s.after.length := d2.length.symm
          have hx4 := hD.few s hs
          refine walk_any (walk_list (K := K) (a := pl) (xs := xs)) _ (fun i H' => ∃ (F' : List (List Nat × Nat)), SameX pk H2 H' ∧ H' pk = some (.dT (F'.map (rKV vn))) ∧ Memo D t F' ∧ F'.length ≤ F.length + i * Bd d ∧
              H' Dl = some (.lst ((((s.after.take i).filter fun x => goes x t).map fun x => onF 12 x t).map vn)))
            ⟨F, fun b u hb e => by rw [upd_ne (ne_of_none e hDl)]; exact e, by rw [upd_ne nDk.symm]; exact hk2, hF, by omega, upd_same⟩ (fun i H' _ p => by obtain ⟨_, q1, _⟩ := p; exact SqL.of (q1 _ _ npk h2)) (fun i z H3 H4 hi p yv => ?_) (fun H3 p => ?_)
          · obtain ⟨rfl, hz⟩ := yv
            obtain ⟨F', q1, q2, q3, q4, q5⟩ := p
            obtain ⟨u, hu1, hu2⟩ := pairedGet d2 hz
            have hmem : u ∈ s.after := List.mem_of_getElem? hu1
            obtain ⟨huD, hsum⟩ := hD.aft s hs u hmem
            have hu3 : TAt H4 u z := hu2.tup (q1.tup' hk2)
            have hy3 : TAt H4 t y := (hy.mono s12).tup (q1.tup' hk2)
            have hi4 : i < 4 := by omega
            have et : s.after.take (i + 1) = s.after.take i ++ [u] := by rw [List.take_add_one, hu1]; rfl
            refine ⟨rfl, ?_⟩
            refine ⟨_, rfl, _, rfl, z, y, u, t, rfl, ⟨hu3, hD.ht u huD, hD.len u huD⟩, ⟨hy3, hD.ht t ht, hD.len t ht⟩, hD.leq u huD t ht, fun H5 s5 => ⟨_, rfl, ?_⟩⟩
            cases hgu : goes u t with
            | false =>
              refine ⟨F', q1.then s5, s5 _ _ q2, q3, by rw [Nat.succ_mul]; omega, ?_⟩
              rw [et, List.filter_append, List.filter_cons, if_neg (by rw [hgu]; decide)]
              show H5 Dl = some (.lst (List.map vn (List.map _ (_ ++ []))))
              rw [List.append_nil]
              exact s5 _ _ q5
            | true =>
              have hmul : (i + 1) * Bd d ≤ 4 * Bd d := Nat.mul_le_mul_right _ hi4
              rw [Nat.succ_mul] at hmul
              have eBd : Bd (d + 1) = 4 * Bd d + 1 := rfl
              refine ⟨_, rfl, _, rfl, _, rfl, D, M, u, t, z, y, pk, F', rfl, hD, huD, ht, hgu, by omega, hu3.mono s5, hy3.mono s5, s5 _ _ q2, q3, by omega, fun H6 F6 x6 k6 m6 l6 => ?_⟩
              have h6 := x6 _ _ nDk (s5 _ _ q5)
              refine ⟨_, h6, ?_, F6, ?_, ?_, m6, by rw [Nat.succ_mul]; omega, ?_⟩
              · rw [List.length_map, List.length_map]
                have h1 := List.length_filter_le (fun x => goes x t) (s.after.take i)
                have h2 : (s.after.take i).length ≤ s.after.length := by rw [List.length_take]; exact Nat.min_le_right _ _
                exact small1000 (by omega)
              · intro b v hb e
                have hbD : b ≠ Dl := ne_of_none e hDl
                rw [upd_ne hbD]
                exact x6 _ _ hb (s5 _ _ (q1 _ _ hb e))
              · rw [upd_ne nDk.symm]
                exact k6
              · rw [upd_same, et, List.filter_append, List.filter_cons, if_pos hgu]
                show some (HO.lst _) = some (HO.lst (List.map vn (List.map _ (_ ++ [u]))))
                rw [List.map_append, List.map_append]
                rfl
          · obtain ⟨F', q1, q2, q3, q4, q5⟩ := p
            rw [hxl, List.take_length] at q5
            refine ⟨Dl, (((s.after.filter fun x => goes x t).map fun x => onF 12 x t).map fun n : Nat => (n : Int)), rfl, SqL.of (by rw [q5]; exact congrArg (fun z => some (HO.lst z)) (rI_vals _).symm), ?_⟩
            rw [sum_cast, ← e13]
            have ha3 : H3 pa = some (.tup (rowV s.reach)) := q1.tup' hk2 _ _ (s2 _ _ ha1)
            have eBd : Bd (d + 1) = 4 * Bd d + 1 := rfl
            have hmul : xs.length * Bd d ≤ 4 * Bd d := Nat.mul_le_mul_right _ (by omega)
            refine ⟨_, rfl, _, rfl, pk, _, rfl, DPut.t q2 (by rw [rk_vals]; exact ha3) (by rw [List.length_map, sizeLine_eq]; omega), ?_⟩
            have eput := put_rk vn s.reach (onF 12 s t) F'
            have eput2 : putK (F'.map (rKV vn)) (rk s.reach) (V.int ((onF 12 s t : Nat) : Int)) = (putL F' s.reach (onF 12 s t)).map (rKV vn) := eput
            rw [eput2]
            have ha4 : (upd H3 pk (.dT ((putL F' s.reach (onF 12 s t)).map (rKV vn)))) pa = some (.tup (rowV s.reach)) := by rw [upd_ne (ne_of ha3 q2 (fun z => nomatch z))]; exact ha3
            refine ⟨_, rfl, _, rfl, pk, vn (onF 12 s t), rfl, ?_, ?_⟩
            · have := DGet.t (k := rk s.reach) (upd_same (H := H3) (a := pk) (o := .dT ((putL F' s.reach (onF 12 s t)).map (rKV vn)))) (by rw [rk_vals]; exact ha4)
              rw [look_val, look_putL] at this
              exact this
            · refine q _ (putL F' s.reach (onF 12 s t)) (fun b u hb e => ?_) upd_same (fun p hp => ?_) ?_
              · rw [upd_ne hb]
                exact q1 _ _ hb (s12 _ _ e)
              · unfold putL at hp
                split at hp
                · obtain ⟨p0, hp0, e⟩ := List.mem_map.mp hp
                  split at e
                  · rename_i hh
                    exact ⟨s, hs, by rw [← e]; exact (eqL_iff.mp hh).symm, by rw [← e]⟩
                  · exact q3 p (e ▸ hp0)
                · rcases List.mem_append.mp hp with hp | hp
                  · exact q3 p hp
                  · rw [List.mem_singleton.mp hp]
                    exact ⟨s, hs, rfl, rfl⟩
              · have := putL_len F' s.reach (onF 12 s t)
                omega
end
end Rg

namespace Rg
open PySem PySem.Spec PyProof.Rows L2
theorem adds_eq (d : D) (size deep : Nat) (js : List Nat) : d.adds size deep js = if d.has js then Nat.beq (d.beginning js) 1 else
    Nat.beq ((List.range (size + 1)).map fun k => d.beginning (js ++ [k])).sum (d.beginning js) && (match deep with
      | 0 => true
      | deep + 1 => (List.range (size + 1)).all fun k => if Nat.blt 0 (((List.range (size + 1)).map fun k => d.beginning (js ++ [k])).getD k 0) then d.adds size deep (js ++ [k]) else true) := by
  rw [D.adds] <;> rfl
theorem cat_row {K : PySem.W.Frag} {H : Hp} {js : List Nat} {v : V} {k : Nat} {b : Addr} {Q : VK} (hv : RowAt H js v) (hb : H b = some (.tup [vn k])) (hl : js.length ≤ 100) (q : ∀ u H', Same H H' → RowAt H' (js ++ [k]) u → Q u H') : rCatA K v (.ref b) H Q := by
  obtain ⟨a, rfl, ha⟩ := hv
  refine ⟨a, b, _, _, rfl, rfl, SqT.of ha, SqT.of hb, sz1000 (by rw [List.length_map]; show js.length + 1 ≤ 1000; omega), fun e => ?_, (fun _ e => nomatch e), fun _ _ p np => ?_⟩
  · have e2 : js = [] := List.map_eq_nil_iff.mp e
    exact q _ H (Same.refl _) ⟨b, rfl, by rw [e2]; exact hb⟩
  · refine q _ _ (same_new np) ⟨p, rfl, ?_⟩
    rw [upd_same]
    show some (HO.tup (js.map vn ++ [vn k])) = some (HO.tup ((js ++ [k]).map vn))
    rw [List.map_append]
    rfl
theorem blt_f {a b : Nat} (h : Nat.blt a b = false) : ¬ a < b := fun z => by
  have e : Nat.blt a b = true := by rw [Nat.blt_eq]; exact z
  rw [e] at h
  cases h
theorem vzero (i : Nat) : V.int ((0 : Int) + ((i : Nat) : Int)) = vn i := congrArg V.int (Int.zero_add _)
section
variable {P : Program} {w : World} {K : PySem.W.Frag} {mg : Str → Option Value} {base : Heap} {C : Addr}
theorem scAdds : FnScope ["_law_known", "_law_joins_so", "_law_size_so", "_law_deep", "_law_whole", "_law_parts_so", "_law_k"] ["_law_known", "_law_joins_so", "_law_size_so", "_law_deep"] (defScope (topS 43)) := ⟨rfl, rfl, rfl, by decide +kernel, rfl, by decide +kernel, by decide +kernel⟩
def spAdds (C : Addr) (j : Nat) : Sp := fun vs H Q _ => ∃ (n : Nat) (a : Addr) (s : T) (d : D) (js : List Nat) (v : V) (size deep : Nat), vs = [.ref a, v, vn size, vn deep] ∧ deep + 1 = j ∧ RtAt C H a s d ∧ GoodD n d ∧ RowAt H js v ∧ js.length + deep ≤ 50 ∧ size ≤ 50 ∧ d.adds size deep js = true ∧ ∀ H', Same H H' → Q (.bl true) H'
theorem has_adds (B : Bi mg) (R : Ro K C) (A : At K mg "_law_adds_right" (topS 43)) (hB : HasM P w K mg base C "beginning" 4 (spBeg C)) (hH : HasM P w K mg base C "__contains__" 4 (spHas C)) : ∀ j, Has P w K mg base "_law_adds_right" (j + 4) (spAdds C j)
  | 0 => has_no A (ps := ["_law_known", "_law_joins_so", "_law_size_so", "_law_deep"]) (fun _ _ _ _ _ _ us hl => match us, hl with | [_, _, _, _], _ => rfl) fun vs H Q E h => by
    obtain ⟨n, a, s, d, js, v, size, deep, _, h, _⟩ := h
    omega
  | j + 1 => by
    have hS := has_adds B R A hB hH j
    refine has_of A scAdds (fun _ _ _ _ _ _ us hl => match us, hl with | [_, _, _, _], _ => rfl) (fun vs H Q E h => ?_) (fun f cdv Ar outer sh H vs Q E hr h => ?_)
    · obtain ⟨n, a, s, d, js, v, size, deep, rfl, _⟩ := h
      rfl
    · obtain ⟨n, a, s, d, js, v, size, deep, rfl, hj, hR, hG, hv, hl, hsz, had, q⟩ := h
      obtain rfl : deep = j := by omega
      refine ⟨_, pss_cons (ps_set (i := 4) scAdds.nd rfl (Or.inl rfl) (pe_m hB R.cl hr (pv 0) (pa_cons (pv 1) pa_nil) (by omega)))
        (pss_cons (ps_if (pt_cmpR (op_ownIn hH hr (by omega)) (pv 1) (pv 0) (by rfl)) (pss_one (ps_ret (pe_cmpR op_eq (pv 4) pe_int (nomark _)))) pss_nil)
        (pss_cons (ps_set (i := 5) scAdds.nd rfl (Or.inr rfl) (pe_lc (own := [("_law_k", 6)]) (g := gName 6) (tt := tYes) (by rfl) scAdds.nd (pi_range2 (by rfl) B.range (pa_cons pe_int (pa_cons (pe_op op_add (pv 2) pe_int) pa_nil)))
            (blkOk_by (own := [("_law_k", 6)]) (N := ["_law_known", "_law_joins_so", "_law_size_so", "_law_deep", "_law_whole", "_law_parts_so", "_law_k"]) (sc := defScope (topS 43)) (by decide +kernel))
            (fun _ _ _ _ _ => pg_name (i := 6) scAdds.nd rfl (Or.inl rfl)) (fun _ _ _ _ _ => pts_nil)
            (fun _ _ _ _ _ => pe_m hB R.cl hr (pv 0) (pa_cons (pe_op (opCatT (K := K)) (pv 1) (pe_tup (pa_cons (pv 6) pa_nil))) pa_nil) (by omega))))
        (pss_cons (ps_if (pt_cmpR op_ne (pe_callB (cSum (K := K)) (by rfl) B.sum (by decide +kernel) (pa_cons (pv 5) pa_nil)) (pv 4) (nomark _)) (pss_one (ps_ret pe_bl)) pss_nil)
        (pss_one (ps_ret (pe_or (pe_cmpR op_eq (pv 3) pe_int (nomark _)) (pe_one (pe_callB (cAll (K := K)) (by rfl) B.all (by decide +kernel) (pa_cons
          (pe_lc (own := [("_law_k", 6)]) (g := gName 6) (by rfl) scAdds.nd (pi_range1 (by rfl) B.range (pa_cons (pe_op op_add (pv 2) pe_int) pa_nil))
            (blkOk_by (own := [("_law_k", 6)]) (N := ["_law_known", "_law_joins_so", "_law_size_so", "_law_deep", "_law_whole", "_law_parts_so", "_law_k"]) (sc := defScope (topS 43)) (by decide +kernel))
            (fun _ _ _ _ _ => pg_name (i := 6) scAdds.nd rfl (Or.inl rfl)) (fun _ _ _ _ _ => pts_one (pt_cmpR op_gt (pe_ix (ixL (K := K)) (pv 5) (pv 6) (fun _ _ => rfl)) pe_int (nomark _)))
            (fun _ _ _ _ _ => pe_c hS hr (pa_cons (pv 0) (pa_cons (pe_op (opCatT (K := K)) (pv 1) (pe_tup (pa_cons (pv 6) pa_nil))) (pa_cons (pv 2) (pa_cons (pe_op op_sub (pv 3) pe_int) pa_nil)))) (by omega))) pa_nil)))))))))  , ?_⟩
      rw [adds_eq] at had
      obtain ⟨dx, fs, vs, vf, vg, pf, pt, F, h1, h2, _⟩ := hR.ex
      refine ⟨_, rfl, a, dx, fs, rfl, h1, h2 _ (by decide), _, rfl, n, a, s, d, js, v, rfl, hR, hG, hv, fun H1 s1 => ?_⟩
      refine ⟨_, rfl, _, rfl, a, dx, fs, rfl, s1 _ _ h1, n, a, s, d, js, v, rfl, hR.mono s1, hG, hv.mono s1, fun H2 s2 => ⟨_, rfl, _, rfl, ?_⟩⟩
      have s12 := s1.trans s2
      cases hh : d.has js with
      | true =>
        rw [hh, if_pos rfl] at had
        refine iteT ⟨_, rfl, rfl, ?_⟩
        show Q (V.bl (decide (vn (d.beginning js) = V.int 1))) H2
        rw [Nat.eq_of_beq_eq_true had, show decide (vn 1 = V.int 1) = true from decide_eq_true rfl]
        exact q H2 s12
      | false =>
        rw [hh, if_neg (by decide), Bool.and_eq_true] at had
        obtain ⟨had1, had2⟩ := had
        refine iteF ⟨_, rfl, (size : Int), 1, rfl, rfl, 0, (size : Int) + 1, rfl, ⟨by omega, by omega, by omega, by omega⟩, fun D1 hD1 => ?_⟩
        have en : ((size : Int) + 1 - 0).toNat = size + 1 := by omega
        rw [en]
        refine lc_gen (walk_range (lo := (0 : Int)) (n := size + 1)) (by omega) hD1 (fun i H z => z = vn (((List.range (size + 1)).map fun k => d.beginning (js ++ [k])).getD i 0)) (fun _ => true) (fun _ _ _ _ _ h => h) (fun _ _ => trivial)
          (fun i z H3 H4 Ky Kn hi s3 hy ky kn => ?_) (fun ys H3 s3 hD3 d3 => ?_)
        · obtain ⟨rfl, rfl⟩ := hy
          have ez : (fun i : Nat => V.int ((0 : Int) + (i : Int))) i = vn i := vzero i
          rw [ez]
          have s13 := s12.trans s3
          refine ⟨rfl, yes_el ⟨_, rfl, a, dx, fs, rfl, s13 _ _ h1, h2 _ (by decide), _, rfl, _, rfl, (by show 1 ≤ sizeLine; decide), fun p np => cat_row (k := i) ((hv.mono s13).mono (same_new np)) upd_same (by omega) fun u H5 s5 hu => ?_⟩⟩
          have s35 := (same_new (o := .tup [vn i]) np).trans s5
          refine ⟨n, a, s, d, js ++ [i], u, rfl, (hR.mono s13).mono s35, hG, hu, fun H6 s6 => ky rfl _ _ (s35.trans s6) ?_⟩
          rw [getD_of (x := d.beginning (js ++ [i])) (by rw [List.getElem?_map, List.getElem?_range hi]; rfl)]
        · rw [range_yes] at d3
          have lp : ((List.range (size + 1)).map fun k => d.beginning (js ++ [k])).length = size + 1 := by rw [List.length_map, List.length_range]
          have e : ys = ((List.range (size + 1)).map fun k => d.beginning (js ++ [k])).map vn := by
            have h := range_get ((List.range (size + 1)).map fun k => d.beginning (js ++ [k])) 0 vn
            rw [lp] at h
            exact (pairedEq d3).trans h
          generalize hparts : ((List.range (size + 1)).map fun k => d.beginning (js ++ [k])) = parts at e lp had1 had2
          have s13 := s12.trans s3
          have esum : parts.sum = d.beginning js := Nat.eq_of_beq_eq_true had1
          refine ⟨_, rfl, D1, parts.map fun n : Nat => (n : Int), rfl, SqL.of (by rw [hD3, e]; exact congrArg (fun z => some (HO.lst z)) (rI_vals _).symm), _, rfl, rfl, _, rfl, ?_⟩
          rw [sum_cast, esum, show decide (V.int ((d.beginning js : Nat) : Int) = vn (d.beginning js)) = true from decide_eq_true rfl]
          refine iteF ⟨_, rfl, rfl, _, rfl, ?_⟩
          cases deep with
          | zero =>
            rw [show decide (vn 0 = V.int 0) = true from decide_eq_true rfl]
            exact iteT (q H3 s13)
          | succ dp =>
            rw [show decide (vn (dp + 1) = V.int 0) = false from decide_eq_false fun z => by have z : V.int (((dp + 1 : Nat)) : Int) = V.int 0 := z; injection z with z; omega]
            refine iteF ⟨_, rfl, (size : Int), 1, rfl, rfl, (size : Int) + 1, rfl, by omega, by omega, fun D2 hD2 => ?_⟩
            have en2 : ((size : Int) + 1).toNat = size + 1 := by omega
            rw [en2]
            refine lc_gen (walk_range (lo := (0 : Int)) (n := size + 1)) (by omega) hD2 (fun i H z => z = V.bl true) (fun k => Nat.blt 0 (parts.getD k 0)) (fun _ _ _ _ _ h => h) (fun _ _ => trivial)
              (fun i z H5 H6 Ky Kn hi s5 hy ky kn => ?_) (fun zs H5 s5 hD5 d5 => ?_)
            · obtain ⟨rfl, rfl⟩ := hy
              have ez : (fun i : Nat => V.int ((0 : Int) + (i : Int))) i = vn i := vzero i
              rw [ez]
              have s15 := s13.trans s5
              have hi1 : i < parts.length := by rw [lp]; exact hi
              have hpi : parts[i]? = some (parts.getD i 0) := getD_some hi1
              refine ⟨rfl, ?_⟩
              refine ⟨_, rfl, _, rfl, D1, _, (i : Int), vn (parts.getD i 0), rfl, rfl, SqL.of (s5 _ _ hD3), atI_nat (by rw [e]; exact row_get hpi), ((parts.getD i 0 : Nat) : Int), 0, rfl, rfl, _, rfl, ?_⟩
              have hk := List.all_eq_true.mp had2 i (List.mem_range.mpr hi)
              cases hb : Nat.blt 0 (parts.getD i 0) with
              | false =>
                have : ¬ 0 < parts.getD i 0 := blt_f hb
                rw [decide_eq_false (by omega)]
                exact iteF (kn hb _ (Same.refl _))
              | true =>
                have : 0 < parts.getD i 0 := by rw [Nat.blt_eq] at hb; exact hb
                rw [decide_eq_true (by omega)]
                rw [hb, if_pos rfl] at hk
                refine iteT ⟨_, rfl, _, rfl, _, rfl, (by show 1 ≤ sizeLine; decide), fun p np => cat_row (k := i) ((hv.mono s15).mono (same_new np)) upd_same (by omega) fun u H7 s7 hu => ?_⟩
                have s57 := (same_new (o := .tup [vn i]) np).trans s7
                refine ⟨_, rfl, _, rfl, ((dp + 1 : Nat) : Int), 1, rfl, rfl, n, a, s, d, js ++ [i], u, size, dp, ?_, rfl, (hR.mono s15).mono s57, hG, hu, by rw [List.length_append, List.length_singleton]; omega, hsz, hk, fun H8 s8 => ky hb _ _ (s57.trans s8) rfl⟩
                show [V.ref a, u, vn size, V.int (((dp + 1 : Nat) : Int) - 1)] = [V.ref a, u, vn size, vn dp]
                rw [show ((dp + 1 : Nat) : Int) - 1 = ((dp : Nat) : Int) by omega]
                rfl
            · have ezs := pairedEq (f := fun _ => V.bl true) d5
              refine ⟨D2, ((List.range (size + 1)).filter fun k => Nat.blt 0 (parts.getD k 0)).map fun _ => true, rfl, SqL.of (by rw [hD5, ezs, List.map_map]; rfl), ?_⟩
              have eall : (((List.range (size + 1)).filter fun k => Nat.blt 0 (parts.getD k 0)).map fun _ => true).all id = true := List.all_eq_true.mpr fun x hx => by
                obtain ⟨_, _, e⟩ := List.mem_map.mp hx
                rw [← e]
                rfl
              rw [eall]
              exact q H5 (s13.trans s5)
end
end Rg

namespace Rg
open PySem PySem.Spec PyProof.Rows L2
/-- all that a case of the law asks of plain numbers -/
structure CaseP (E : List T) (M n : Nat) (s t : T) : Prop where
  dom : DomP E M
  hs : s ∈ E
  ht : t ∈ E
  go : goes s t = true
  pre : Pre n s t
  n6 : n ≤ 6
  ev : every 7 1 (n + 1) = E
  adds : (mk s t).adds n 3 [] = true
  many : (mk s t).many = onF 12 s t
  sums : (E.map (mk s t).through).sum = stops (mk s t)
  thr : (mk s t).through s = (mk s t).many
  yes : ∀ o ∈ E, goes s o = true → goes o t = true → (mk s t).through o = onF 12 s o * onF 12 o t
  no : ∀ o ∈ E, (goes s o && goes o t) = false → (mk s t).through o = 0
  sm : ∀ o ∈ E, goes s o = true → onF 12 s o < 1000000
theorem stops_eq (d : D) (n : Nat) (hG : GoodD n d) : stops d = d.total + d.many := by
  obtain ⟨l, hl⟩ := hG.hf
  have e1 : d.own = l := by unfold D.own; rw [hl]; rfl
  have e2 : d.many = sumV l := by
    unfold D.many D.onFrom
    rw [hl]
    rfl
  unfold D.total
  have e3 : stops d = (l.map fun p => (p.1 + 1) * p.2).sum := by unfold stops; rw [hl]; rfl
  rw [e1, e2, e3]
  clear e1 e2 e3 hl
  induction l with
  | nil => rfl
  | cons p l ih =>
    unfold sumV at *
    rw [List.map_cons, List.map_cons, List.map_cons, List.sum_cons, List.sum_cons, List.sum_cons, ih, Nat.add_mul, Nat.one_mul]
    omega
theorem first_at {s : T} : ∀ {E : List T}, s ∈ E → ∃ j : Nat, E[j]? = some s ∧ ∀ (m : Nat) z, m < j → E[m]? = some z → z ≠ s
  | e :: E, h => by
    by_cases he : e = s
    · exact ⟨0, by rw [he]; rfl, fun m z hm _ => absurd hm (Nat.not_lt_zero _)⟩
    · have hs : s ∈ E := by
        rcases List.mem_cons.mp h with q | q
        · exact absurd q.symm he
        · exact q
      obtain ⟨j, h1, h2⟩ := first_at hs
      refine ⟨j + 1, by simpa using h1, fun m z hm hz => ?_⟩
      cases m with
      | zero =>
        have : e = z := by simpa using hz
        rw [← this]; exact he
      | succ m => exact h2 m z (by omega) (by simpa using hz)
theorem same_of {p : Addr} {H H' : Hp} (a : SameX p H H') (h : H p = none) : Same H H' := fun b u e => a b u (fun z => by rw [z, h] at e; cases e) e
theorem Same.sub {H H2 : Hp} {p : Addr} {o : HO} (a : SameX p (upd H p o) H2) (h : H p = none) : Same H H2 := fun b u e => a b u (fun z => by rw [z, h] at e; cases e) (by rw [upd_ne (fun z => by rw [z, h] at e; cases e)]; exact e)
section
variable {X : Cx} {x : Str} {C : Addr} {k n : Nat} {sp : Sp} {e : Expr} {es : List Expr} {t : TA} {p pos : Pos}
theorem pe_mk (h : HasM X.prog X.w X.K X.mg X.base C "__init__" k sp) (mk : PySem.W.makesIn X.K C = true) (kc : PySem.W.keepIn X.K (.ref C) = true) (hm : X.mg x = some (.ref C)) (hr : Room n X.A) (ha : PA X (e :: es) t) (hkm : k + 1 ≤ n := by decide) (hg : Gl X x := by rfl)
    (hdb : (x == ("__debug__" : Str)) = false := by decide) (he : starEach (e :: es) X.env = (false, eval e X.env) :: starEach es X.env := by rfl) (hpl : (backTo pos (starEach es X.env)).any (·.1) = false := by rfl) :
    PE X (.Call (.Name x p) (e :: es) [] pos) (tMake C sp [] E0 t) := by
  obtain ⟨f, fd, ps, h1, h2, h3⟩ := h.ex
  exact pe_make ⟨mk, h2.at_, h2.fn, kc⟩ h1 (hr.mono hkm) hg hm h3 .nil pass0 ha hdb he hpl
end
section
variable {P : Program} {w : World} {K : PySem.W.Frag} {mg : Str → Option Value} {base : Heap} {C : Addr}
/-- all that the case's walk calls -/
structure Calls (P : Program) (w : World) (K : PySem.W.Frag) (mg : Str → Option Value) (base : Heap) (C : Addr) : Prop where
  B : Bi mg
  R : Ro K C
  mkC : PySem.W.makesIn K C = true
  kpC : PySem.W.keepIn K (.ref C) = true
  gC : mg "Routes" = some (.ref C)
  init : HasM P w K mg base C "__init__" 16 (spInit C)
  many : HasP P w K mg base C "many" 1 (spMy C)
  lengths : HasP P w K mg base C "lengths" 1 (spLs C)
  average : HasP P w K mg base C "average" 3 (spAvg C)
  through : HasM P w K mg base C "through" 13 (spThr C)
  share : HasM P w K mg base C "share" 14 (spShr C)
  every : Has P w K mg base "_law_every" 7 (spEvery 7)
  arms : Has P w K mg base "_law_arms" 10 spReaches
  adds : Has P w K mg base "_law_adds_right" 8 (spAdds C 4)
  on : Has P w K mg base "_law_on" 22 (spCnt 11)
  goes : Has P w K mg base "_law_goes" 11 spGoes
  frac : Has P w K mg base "_law_fraction" 1 spFrac
theorem scCase : FnScope ["_law_mine", "_law_its", "_law_known", "_law_every_here", "_law_own", "_law_stops", "_law_parts_so"] ["_law_mine", "_law_its"] (defScope (topS 44)) := ⟨rfl, rfl, rfl, by decide +kernel, rfl, by decide +kernel, by decide +kernel⟩
def spCase : Sp := fun vs H Q _ => ∃ (E : List T) (M n : Nat) (s t : T) (x y : V), vs = [x, y] ∧ CaseP E M n s t ∧ TAt H s x ∧ TAt H t y ∧ ∀ H', Same H H' → Q (.bl true) H'
theorem has_case (A : At K mg "_law_case_right" (topS 44)) (U : Calls P w K mg base C) : Has P w K mg base "_law_case_right" 24 spCase := by
  refine has_of A scCase (fun _ _ _ _ _ _ us hl => match us, hl with | [_, _], _ => rfl) (fun vs H Q E h => ?_) (fun f cdv Ar outer sh H vs Q E hr h => ?_)
  · obtain ⟨E, M, n, s, t, x, y, rfl, _⟩ := h
    rfl
  · obtain ⟨E, M, n, s, t, x, y, rfl, Z, hx, hy, q⟩ := h
    have R := U.R
    refine ⟨_, pss_cons (ps_asg (pe_tup (pa_cons (pe_mk U.init U.mkC U.kpC U.gC hr (pa_cons (pv 0) (pa_cons (pv 1) pa_nil))) (pa_cons (pe_c U.every hr (pa_cons pe_int (pa_cons (pe_op op_add (pe_callB (cLen (K := K)) (by rfl) U.B.len PySem.boot_len (pa_cons (pe_c U.arms hr (pa_cons (pv 0) pa_nil)) pa_nil)) pe_int) pa_nil))) pa_nil)))
          (pg_tup (by rfl) (pgs_cons (pg_name (i := 2) scCase.nd rfl (.inr rfl)) (pgs_cons (pg_name (i := 3) scCase.nd rfl (.inl rfl)) pgs_nil))))
      (pss_cons (ps_if (PW.pt (pw_or (pt_not (pt_val (pe_c U.adds hr (pa_cons (pv 2) (pa_cons (pe_tup pa_nil) (pa_cons (pe_callB (cLen (K := K)) (by rfl) U.B.len PySem.boot_len (pa_cons (pe_c U.arms hr (pa_cons (pv 0) pa_nil)) pa_nil)) (pa_cons pe_int pa_nil)))))))
          (pw_or1 (pt_cmpR op_ne (pe_p U.many R.cl hr (pv 2)) (pe_c U.on hr (pa_cons (pv 0) (pa_cons (pv 1) (pa_cons pe_dnewT pa_nil)))) (nomark _))))) (pss_one (ps_ret pe_bl)) pss_nil)
      (pss_cons (ps_set (i := 5) scCase.nd rfl (Or.inl rfl) (pe_callB (cSum (K := K)) (by rfl) U.B.sum (by decide +kernel) (pa_cons
          (pe_lc (own := [("_law_own", 4)]) (g := gName 4) (tt := tYes) (by rfl) scCase.nd (pi_tup (pe_p U.lengths R.cl hr (pv 2)))
            (blkOk_by (own := [("_law_own", 4)]) (N := ["_law_mine", "_law_its", "_law_known", "_law_every_here", "_law_own", "_law_stops", "_law_parts_so"]) (sc := defScope (topS 44)) (by decide +kernel))
            (fun _ _ _ _ _ => pg_name (i := 4) scCase.nd rfl (Or.inl rfl)) (fun _ _ _ _ _ => pts_nil)
            (fun _ _ _ _ _ => pe_op op_mulN (pe_op op_add (pe_ix (ixT (K := K)) (pv 4) pe_int (fun _ _ => rfl)) pe_int) (pe_ix (ixT (K := K)) (pv 4) pe_int (fun _ _ => rfl)))) pa_nil)))
      (pss_cons (ps_setLc (i := 6) (own := [("_law_own", 4)]) (g := gName 4) (tt := tYes) rfl scCase.nd rfl rfl rfl (pi_list (pv 3))
            (blkOk_by (own := [("_law_own", 4)]) (N := ["_law_mine", "_law_its", "_law_known", "_law_every_here", "_law_own", "_law_stops", "_law_parts_so"]) (sc := defScope (topS 44)) (by decide +kernel))
            (fun _ _ _ _ _ => pg_name (i := 4) scCase.nd rfl (Or.inl rfl)) (fun _ _ _ _ _ => pts_nil)
            (fun _ _ _ _ _ => pe_m U.through R.cl hr (pv 2) (pa_cons (pv 4) pa_nil)))
      (pss_cons (ps_if (PW.pt (pw_or (pt_cmpR op_ne (pe_callB (cSum (K := K)) (by rfl) U.B.sum (by decide +kernel) (pa_cons (pv 6) pa_nil)) (pv 5) (nomark _))
          (pw_or1 (pt_cmpR op_ne (pe_ix (ixL (K := K)) (pv 6) (pe_bm PySem.F.plainAttrs_list PySem.F.slot_list_index PySem.F.type_list_index (mt_indexD (Nat.lt_of_le_of_lt (Nat.add_le_add_left (by decide) _) hr.un)) (pv 3) (pa_cons (pv 0) pa_nil)) (fun _ _ => rfl)) (pe_p U.many R.cl hr (pv 2)) (nomark _))))) (pss_one (ps_ret pe_bl)) pss_nil)
      (pss_cons (ps_for PassesOwn.never rfl (pi_list (pv 3)) (pg_name (i := 4) scCase.nd rfl (.inl rfl))
        (pss_one (ps_if (PW.pt (pw_or (pt_not (pt_val (pe_c U.goes hr (pa_cons (pv 0) (pa_cons (pv 4) pa_nil))))) (pw_or1 (pt_not (pt_val (pe_c U.goes hr (pa_cons (pv 4) (pa_cons (pv 1) pa_nil))))))))
          (pss_one (ps_if (PW.pt (pw_or (pt_cmpR op_ne (pe_m U.through R.cl hr (pv 2) (pa_cons (pv 4) pa_nil)) pe_int (nomark _)) (pw_or1 (pt_cmpR (opNeD (K := K) hr.units) (pe_m U.share R.cl hr (pv 2) (pa_cons (pv 4) pa_nil)) (pe_tup (pa_cons pe_int (pa_cons pe_int pa_nil))) (nomark _))))) (pss_one (ps_ret pe_bl)) pss_nil))
          (pss_one (ps_if (pt_cmpR op_ne (pe_m U.through R.cl hr (pv 2) (pa_cons (pv 4) pa_nil)) (pe_op op_mulN (pe_c U.on hr (pa_cons (pv 0) (pa_cons (pv 4) (pa_cons pe_dnewT pa_nil)))) (pe_c U.on hr (pa_cons (pv 4) (pa_cons (pv 1) (pa_cons pe_dnewT pa_nil))))) (nomark _)) (pss_one (ps_ret pe_bl)) pss_nil)))))
      (pss_one (ps_ret (pe_cmpR (opEqD (K := K) hr.units) (pe_p U.average R.cl hr (pv 2)) (pe_c U.frac hr (pa_cons (pe_op op_sub (pv 5) (pe_p U.many R.cl hr (pv 2))) (pa_cons (pe_p U.many R.cl hr (pv 2)) pa_nil))) (nomark _))))))))), ?_⟩
    have G := Z.pre.good
    have zA := Z.adds
    have zM := Z.many
    have zS := Z.sums
    have zT := Z.thr
    have zY := Z.yes
    have zN := Z.no
    have htS := Z.dom.ht s Z.hs
    have htT := Z.dom.ht t Z.ht
    have lnS := Z.dom.len s Z.hs
    have hnn : s.reach.length = n := Z.pre.ls
    -- known
    refine ⟨_, rfl, _, rfl, fun p dx np ndx hne => ?_⟩
    have s0 : Same H (upd (upd H dx (.own p)) p (.ins C dx [])) := fun b u e => by
      rw [upd_ne (ne_of_none e np), upd_ne (ne_of_none e ndx)]
      exact e
    refine ⟨n, p, dx, x, y, s, t, rfl, upd_same, hx.mono s0, hy.mono s0, Z.pre, fun H1 x1 hR1 => ⟨rfl, ?_⟩⟩
    have s1 : Same H H1 := fun b u e => x1 b u (ne_of_none e np) (s0 b u e)
    generalize hd : mk s t = d at G zA zM zS zT zY zN hR1
    -- all groupings
    refine ⟨_, rfl, s, x, rfl, hx.mono s1, htS, lnS, fun pa H2 s2 ha2 => ⟨pa, _, rfl, .inr (SqT.of ha2), _, 1, rfl, rfl, 1, n + 1, ?_, by omega, by have := Z.n6; omega, Nat.le_refl _, by have := Z.n6; omega, fun pe es H3 s3 h3 d3 => ?_⟩⟩
    · show [V.int 1, V.int (((rowV s.reach).length : Int) + 1)] = [vn 1, vn (n + 1)]
      rw [row_len, hnn]
      rfl
    rw [Z.ev] at d3
    refine ⟨by show 2 ≤ sizeLine; decide, fun p4 np4 => g2 upd_same ?_⟩
    have s4 := same_new (o := .tup [V.ref p, V.ref pe]) np4
    have s24 := s2.trans (s3.trans s4)
    have s04 := s1.trans s24
    have hR4 := hR1.mono s24
    have h4 := s4 _ _ h3
    have d4 := pairedMap (fun _ _ h => TAt.mono s4 h) d3
    generalize (upd H3 p4 (.tup [V.ref p, V.ref pe])) = H4 at s4 s24 s04 hR4 h4 d4
    have hx4 := hx.mono s04
    have hy4 := hy.mono s04
    obtain ⟨dx4, fs, vs, vf, vg, pf, pt, F, i1, i2, _⟩ := hR4.ex
    have hel : es.length = E.length := d4.length.symm
    have hE : E.length ≤ 1000 := by rw [← Z.ev]; exact every_small (by omega) (Nat.le_refl _) (by have := Z.n6; omega)
    have dq : ∀ i : Nat, decide (vn i = vn i) = true := fun i => decide_eq_true rfl
    -- the parts add up; as many as the law counts
    refine ⟨_, rfl, Nat.zero_le _, fun p5 np5 => ?_⟩
    have s5 := same_new (o := .tup []) np5
    refine ⟨_, rfl, s, x, rfl, hx4.mono s5, htS, lnS, fun pb H6 s6 hb6 => ⟨pb, _, rfl, .inr (SqT.of hb6), ?_⟩⟩
    have s56 := s5.trans s6
    refine ⟨n, p, s, d, [], .ref p5, n, 3, ?_, rfl, hR4.mono s56, G, ⟨p5, rfl, s6 _ _ upd_same⟩, by decide, by have := Z.n6; omega, zA, fun H7 s7 => ⟨_, rfl, ?_⟩⟩
    · rw [row_len, hnn]
      rfl
    have s47 := s56.trans s7
    refine iteF ⟨_, rfl, p, dx4, fs, rfl, s47 _ _ i1, n, p, s, d, rfl, hR4.mono s47, G, fun H8 s8 => ?_⟩
    have s48 := s47.trans s8
    refine ⟨_, rfl, _, rfl, fun pk npk => ⟨E, M, s, t, x, y, pk, [], rfl, Z.dom, Z.hs, Z.ht, Z.go, Z.dom.lo s Z.hs, (hx4.mono s48).mono (same_new npk), (hy4.mono s48).mono (same_new npk), upd_same, (fun _ h => nomatch h), by decide, fun H9 F9 x9 _ _ _ => ⟨rfl, _, rfl, ?_⟩⟩⟩
    have s9 : Same H8 H9 := Same.sub x9 npk
    rw [zM, dq]
    refine iteF ?_
    have s49 := s48.trans s9
    -- stops
    refine ⟨_, rfl, p, dx4, fs, rfl, s49 _ _ i1, n, p, s, d, rfl, hR4.mono s49, G, fun pz zs Ha sa pm hpz hz => ⟨pz, rfl, ⟨_, SqT.of hpz⟩, fun D1 hD1 => ?_⟩⟩
    have s4a := s49.trans sa
    have hzl : zs.length ≤ 1000 := by
      have e := pm.length_eq
      rw [List.length_map] at e
      obtain ⟨l, hl⟩ := G.hf
      obtain ⟨_, _, _, _, _, _, _, F, _, _, _, _, _, _, _, _, _, h10, h11, _⟩ := hR4.ex
      obtain ⟨ad, v1, v2, v3⟩ := lens_look h10 (r := d.first) (l := l) (by rw [h11]; exact hl)
      have eown : d.own = l := by unfold D.own; rw [hl]; rfl
      rw [eown] at e
      omega
    have hbz : ∀ z ∈ zs, z.2.1 + 1 ≤ 4294967296 := fun z hz => by
      have := G.bd z.2 (pm.mem_iff.mp (List.mem_map.mpr ⟨z, hz, rfl⟩))
      omega
    refine lc_gen (walk_tup (K := K) (a := pz) (xs := zs.map fun z => V.ref z.1)) (by rw [List.length_map]; exact hzl) hD1 (fun i H z => z = vn ((zs.map fun z => (z.2.1 + 1) * z.2.2).getD i 0)) (fun _ => true) (fun _ _ _ _ _ h => h) (fun H s => SqT.of (s _ _ hpz))
      (fun i z Hb Hc Ky Kn hi sb hy ky kn => ?_) (fun ys Hb sb hDb db => ?_)
    · obtain ⟨rfl, hx⟩ := hy
      rw [List.getElem?_map] at hx
      obtain ⟨u, hzi, rfl⟩ := Option.map_eq_some_iff.mp hx
      have hzm := List.mem_of_getElem? hzi
      have hu := sb _ _ (hz u hzm)
      refine ⟨rfl, yes_el ⟨_, rfl, u.1, _, 0, vn u.2.1, rfl, rfl, SqT.of hu, atI_nat (j := 0) rfl, (u.2.1 : Int), 1, rfl, rfl, _, rfl, u.1, _, 1, vn u.2.2, rfl, rfl, SqT.of hu, atI_nat (j := 1) rfl, u.2.1 + 1, u.2.2, rfl, rfl, hbz u hzm, ky rfl _ _ (Same.refl _) ?_⟩⟩
      rw [getD_of (x := (u.2.1 + 1) * u.2.2) (by rw [List.getElem?_map, hzi]; rfl)]
      rfl
    have eS : (zs.map fun z => (z.2.1 + 1) * z.2.2).sum = stops d := by
      have h1 : (zs.map fun z => (z.2.1 + 1) * z.2.2) = (zs.map (·.2)).map fun p => (p.1 + 1) * p.2 := by rw [List.map_map]; rfl
      rw [h1]
      exact List.Perm.sum_nat (pm.map _)
    have eys : ys = (zs.map fun z => (z.2.1 + 1) * z.2.2).map vn := by
      rw [range_yes, List.length_map] at db
      have h := range_get (zs.map fun z => (z.2.1 + 1) * z.2.2) 0 vn
      rw [List.length_map] at h
      exact (pairedEq db).trans h
    refine ⟨D1, (zs.map fun z => (z.2.1 + 1) * z.2.2).map fun n : Nat => (n : Int), rfl, SqL.of (by rw [hDb, eys]; exact congrArg (fun z => some (HO.lst z)) (rI_vals _).symm), ?_⟩
    rw [sum_cast, eS]
    have s4b := s4a.trans sb
    -- parts
    refine ⟨_, rfl, pe, rfl, ⟨_, SqL.of (s4b _ _ h4)⟩, fun D2 hD2 => ?_⟩
    refine lc_gen (walk_list (K := K) (a := pe) (xs := es)) (by omega) hD2 (fun i H z => z = vn ((E.map d.through).getD i 0)) (fun _ => true) (fun _ _ _ _ _ h => h) (fun H s => SqL.of (s _ _ (s4b _ _ h4)))
      (fun i z Hc Hd Ky Kn hi sc hy ky kn => ?_) (fun ps Hc sc hDc dc => ?_)
    · obtain ⟨rfl, hx⟩ := hy
      obtain ⟨o, ho1, ho2⟩ := pairedGet d4 hx
      have ho := List.mem_of_getElem? ho1
      have s4c := s4b.trans sc
      refine ⟨rfl, yes_el ⟨_, rfl, p, dx4, fs, rfl, s4c _ _ i1, i2 _ (by decide), _, rfl, n, p, s, d, o, z, rfl, hR4.mono s4c, G, ⟨ho2.mono s4c, Z.dom.ht o ho, Z.dom.len o ho⟩, Z.dom.leq s Z.hs o ho, fun He se => ky rfl _ _ se ?_⟩⟩
      rw [getD_of (x := d.through o) (by rw [List.getElem?_map, ho1]; rfl)]
    have eps : ps = (E.map d.through).map vn := by
      rw [range_yes, hel] at dc
      have h := range_get (E.map d.through) 0 vn
      rw [List.length_map] at h
      exact (pairedEq dc).trans h
    have s4c := s4b.trans sc
    have hD2c : Hc D2 = some (.lst ((E.map d.through).map vn)) := by rw [hDc, eps]
    -- sum(parts) != stops or ..
    refine ⟨_, rfl, D2, (E.map d.through).map fun n : Nat => (n : Int), rfl, SqL.of (by rw [hD2c]; exact congrArg (fun z => some (HO.lst z)) (rI_vals _).symm), _, rfl, rfl, _, rfl, ?_⟩
    rw [sum_cast, zS, show decide (V.int ((stops d : Nat) : Int) = V.int ((stops d : Nat) : Int)) = true from decide_eq_true rfl]
    obtain ⟨j, hj1, hj2⟩ := first_at Z.hs
    have hjx : ((E.map d.through).map vn)[j]? = some (vn (d.through s)) := by rw [List.getElem?_map, List.getElem?_map, hj1]; rfl
    have d4c := pairedMap (fun _ _ h => TAt.mono s4c h) d4
    have h50 : ∀ u ∈ E, u.ht ≤ 50 := fun u hu => by have := Z.dom.ht u hu; omega
    refine iteF ⟨_, rfl, _, rfl, .inl ⟨rfl, _, SqL.of (s4c _ _ h4)⟩, _, rfl, pe, x, s.d, E.map T.d, j, s.d, rfl, rfl, .lst (SqL.of (s4c _ _ h4)) (trees_dp d4c), (hx4.mono s4c).dp, trees_shaped h50, T.d_shaped (by have := h50 s Z.hs; omega), by rw [List.getElem?_map, hj1]; rfl, by rw [T.d_eqv]; exact decide_eq_true rfl, fun m z' hm hz' => ?_, ?_⟩
    · rw [List.getElem?_map] at hz'
      obtain ⟨u, hu, rfl⟩ := Option.map_eq_some_iff.mp hz'
      rw [T.d_eqv]
      exact decide_eq_false (hj2 m u hm hu)
    refine ⟨D2, _, (j : Int), vn (d.through s), rfl, rfl, SqL.of hD2c, atI_nat hjx, ?_⟩
    refine ⟨_, rfl, p, dx4, fs, rfl, s4c _ _ i1, n, p, s, d, rfl, hR4.mono s4c, G, fun Hf sf => ⟨rfl, _, rfl, ?_⟩⟩
    rw [zT, dq]
    refine iteF ?_
    have s4f := s4c.trans sf
    -- one by one
    refine ⟨_, rfl, pe, rfl, ⟨_, SqL.of (s4f _ _ h4)⟩, ?_⟩
    refine for_it (walk_list (K := K) (a := pe) (xs := es)) (fun i σ H' => ∃ y4, σ = [some x, some y, some (.ref p), some (.ref pe), y4, some (vn (stops d)), some (.ref D2)] ∧ Same H4 H')
      ⟨none, rfl, s4f⟩ (fun i σ H' _ p => by obtain ⟨_, _, sp⟩ := p; exact SqL.of (sp _ _ h4)) (fun i z σ Hg Hh hi p' yv => ?_) (fun σ Hg p' => ?_)
    · obtain ⟨rfl, hz'⟩ := yv
      obtain ⟨y4, rfl, sg⟩ := p'
      obtain ⟨o, ho1, ho2⟩ := pairedGet d4 hz'
      have ho := List.mem_of_getElem? ho1
      have hto := Z.dom.ht o ho
      have lno := Z.dom.len o ho
      have okO : ∀ {H' : Hp}, Same H4 H' → TOk H' o z := fun sh => ⟨ho2.mono sh, hto, lno⟩
      have okS : ∀ {H' : Hp}, Same H4 H' → TOk H' s x := fun sh => ⟨hx4.mono sh, htS, lnS⟩
      have okT : ∀ {H' : Hp}, Same H4 H' → TOk H' t y := fun sh => ⟨hy4.mono sh, htT, Z.dom.len t Z.ht⟩
      refine ⟨_, rfl, _, rfl, x, z, s, o, rfl, okS sg, okO sg, Z.dom.leq s Z.hs o ho, fun Hi si => ⟨_, rfl, ?_⟩⟩
      have s4i := sg.trans si
      -- what both branches do where the grouping lies not between
      have offC : ∀ {Hj : Hp} {Q' : Bool → Hp → Prop}, Same H4 Hj → (goes s o && goes o t) = false → (∀ H', Same H4 H' → Q' false H') → tOr (tTest (tOp rNe (tMeth C "through" (spThr C) [] E0 (tVar 2) (tCons (tVar 4) tNil)) (tC (V.int 0)))) (tTest (tOp (rNeD K) (tMeth C "share" (spShr C) [] E0 (tVar 2) (tCons (tVar 4) tNil)) (tTup (tCons (tC (V.int 0)) (tCons (tC (V.int 1)) tNil)))))
          [some x, some y, some (.ref p), some (.ref pe), some z, some (vn (stops d)), some (.ref D2)] Hj Q' := fun {Hj Q'} sj hb kk => by
        have h0 := zN o ho hb
        refine ⟨_, rfl, p, dx4, fs, rfl, sj _ _ i1, i2 _ (by decide), _, rfl, n, p, s, d, o, z, rfl, hR4.mono sj, G, okO sj, Z.dom.leq s Z.hs o ho, fun Hk sk => ⟨rfl, _, rfl, ?_⟩⟩
        rw [h0, show decide (vn 0 = V.int 0) = true from decide_eq_true rfl]
        have s4k := sj.trans sk
        refine iteF ⟨_, rfl, p, dx4, fs, rfl, s4k _ _ i1, i2 _ (by decide), _, rfl, n, p, s, d, o, z, rfl, hR4.mono s4k, G, okO s4k, Z.dom.leq s Z.hs o ho, fun pr Hl sl hpr => ?_⟩
        refine ⟨by show 2 ≤ sizeLine; decide, fun pq npq => ?_⟩
        have sm := same_new (o := .tup [V.int 0, V.int 1]) npq
        rw [h0, Nat.gcd_zero_left, Nat.zero_div, Nat.div_self G.pos] at hpr
        have ra : RowAt (upd Hl pq (.tup [V.int 0, V.int 1])) [0, 1] (.ref pr) := ⟨pr, rfl, sm _ _ hpr⟩
        have rb : RowAt (upd Hl pq (.tup [V.int 0, V.int 1])) [0, 1] (.ref pq) := ⟨pq, rfl, upd_same⟩
        refine ⟨rowD [0, 1], rowD [0, 1], ra.dp, rb.dp, rowD_shaped _, rowD_shaped _, _, rfl, ?_⟩
        rw [rowD_eqv]
        exact kk _ (s4k.trans (sl.trans sm))
      cases hg1 : goes s o with
      | false =>
        refine iteT (iteT (offC s4i (by rw [hg1]; rfl) fun H' s' => iteF ⟨_, rfl, s'⟩))
      | true =>
        refine iteF ⟨_, rfl, _, rfl, z, y, o, t, rfl, okO s4i, okT s4i, Z.dom.leq o ho t Z.ht, fun Hj sj => ⟨_, rfl, ?_⟩⟩
        have s4j := s4i.trans sj
        cases hg2 : goes o t with
        | false =>
          refine iteT (offC s4j (by rw [hg1, hg2]; rfl) fun H' s' => iteF ⟨_, rfl, s'⟩)
        | true =>
          refine iteF ⟨_, rfl, p, dx4, fs, rfl, s4j _ _ i1, i2 _ (by decide), _, rfl, n, p, s, d, o, z, rfl, hR4.mono s4j, G, okO s4j, Z.dom.leq s Z.hs o ho, fun Hk sk => ?_⟩
          have s4k := s4j.trans sk
          refine ⟨_, rfl, _, rfl, fun pk npk => ⟨E, M, s, o, x, z, pk, [], rfl, Z.dom, Z.hs, ho, hg1, Z.dom.lo s Z.hs, (hx4.mono s4k).mono (same_new npk), (ho2.mono s4k).mono (same_new npk), upd_same, (fun _ h => nomatch h), by decide, fun Hl Fl xl _ _ _ => ?_⟩⟩
          have s4l := s4k.trans (Same.sub xl npk)
          refine ⟨_, rfl, _, rfl, fun pk2 npk2 => ⟨E, M, o, t, z, y, pk2, [], rfl, Z.dom, ho, Z.ht, hg2, Z.dom.lo o ho, (ho2.mono s4l).mono (same_new npk2), (hy4.mono s4l).mono (same_new npk2), upd_same, (fun _ h => nomatch h), by decide, fun Hm Fm xm _ _ _ => ?_⟩⟩
          have s4m := s4l.trans (Same.sub xm npk2)
          refine ⟨onF 12 s o, onF 12 o t, rfl, rfl, by have := Z.sm o ho hg1; omega, rfl, _, rfl, ?_⟩
          rw [zY o ho hg1 hg2, show decide (vn (onF 12 s o * onF 12 o t) = V.int ((onF 12 s o * onF 12 o t : Nat) : Int)) = true from decide_eq_true rfl]
          exact iteF ⟨_, rfl, s4m⟩
    · obtain ⟨y4, rfl, sg⟩ := p'
      refine ⟨_, rfl, p, dx4, fs, rfl, sg _ _ i1, n, p, s, d, rfl, hR4.mono sg, G, fun pv1 Hh sh1 hv1 => ?_⟩
      have s4h := sg.trans sh1
      refine ⟨_, rfl, _, rfl, p, dx4, fs, rfl, s4h _ _ i1, n, p, s, d, rfl, hR4.mono s4h, G, fun Hi si => ⟨(stops d : Int), (d.many : Int), rfl, rfl, ?_⟩⟩
      have s4i := s4h.trans si
      refine ⟨_, rfl, p, dx4, fs, rfl, s4i _ _ i1, n, p, s, d, rfl, hR4.mono s4i, G, fun Hj sj => ⟨d.total, d.many, ?_, G.pos, G.posb, fun pv2 Hk sk hv2 => ?_⟩⟩
      · have e := stops_eq d n G
        show [V.int ((stops d : Int) - (d.many : Int)), vn d.many] = [vn d.total, vn d.many]
        rw [show (stops d : Int) - (d.many : Int) = ((d.total : Nat) : Int) by omega]
        rfl
      · have s4k := (s4i.trans sj).trans sk
        have ra : RowAt Hk [d.total / Nat.gcd d.total d.many, d.many / Nat.gcd d.total d.many] (.ref pv1) := ⟨pv1, rfl, sk _ _ (sj _ _ (si _ _ hv1))⟩
        have rb : RowAt Hk [d.total / Nat.gcd d.total d.many, d.many / Nat.gcd d.total d.many] (.ref pv2) := ⟨pv2, rfl, hv2⟩
        refine ⟨_, _, ra.dp, rb.dp, rowD_shaped _, rowD_shaped _, ?_⟩
        rw [rowD_eqv, eqL_iff.mpr rfl]
        exact q Hk (s04.trans s4k)
end
end Rg

namespace Rg
open PySem PySem.Spec PyProof.Rows L2
/-- what plain numbers give for groupings of n factors -/
def Plain (n : Nat) : Prop := ∃ M, DomP (every 7 1 n) M ∧ ∀ s ∈ every 7 1 n, ∀ t ∈ every 7 1 n, goes s t = true → CaseP (every 7 1 n) M (n - 1) s t
theorem fitsL_refl : ∀ r : List Nat, fitsL r r = true
  | [] => rfl
  | x :: xs => by
    show (Nat.ble x x && fitsL xs xs) = true
    rw [Nat.ble_eq_true_of_le (Nat.le_refl _), fitsL_refl xs]
    rfl
section
variable {P : Program} {w : World} {K : PySem.W.Frag} {mg : Str → Option Value} {base : Heap} {C : Addr}
/-! ### _law_right -/
theorem scRight : FnScope ["_law_box_here", "_law_turn", "_law_mine"] ["_law_box_here"] (defScope (topS 45)) := ⟨rfl, rfl, rfl, by decide +kernel, rfl, by decide +kernel, by decide +kernel⟩
def spRight : Sp := fun vs H Q _ => ∃ (a : Addr), vs = [.ref a] ∧ BoxAt H a 0 ∧ Plain 4 ∧ Plain 5 ∧ Plain 6 ∧ ∀ H', SameX a H H' → Q (.bl true) H'
theorem has_right (B : Bi mg) (A : At K mg "_law_right" (topS 45)) (hC : Has P w K mg base "_law_case_right" 24 spCase) (hT : Has P w K mg base "_law_take" 1 spTake) (hG : Has P w K mg base "_law_grouped" 8 (spGrp 7)) (hP : Has P w K mg base "_law_pushed" 9 spPush) :
    Has P w K mg base "_law_right" 25 spRight := by
  refine has_of A scRight (fun _ _ _ _ _ _ us hl => match us, hl with | [_], _ => rfl) (fun vs H Q E h => ?_) (fun f cdv Ar outer sh H vs Q E hr h => ?_)
  · obtain ⟨a, rfl, _⟩ := h
    rfl
  · obtain ⟨a, rfl, hB, p4, p5, p6, q⟩ := h
    refine ⟨_, pss_cons (ps_for PassesOwn.never rfl (pi_range1 (by rfl) B.range (pa_cons pe_int pa_nil)) (pg_name (i := 1) scRight.nd rfl (Or.inl rfl))
        (pss_cons (ps_set (i := 2) scRight.nd rfl (Or.inl rfl) (pe_c hG hr (pa_cons (pv 0) (pa_cons pe_int (pa_cons (pe_op op_add pe_int (pe_c hT hr (pa_cons (pv 0) (pa_cons pe_int pa_nil)))) pa_nil)))))
        (pss_one (ps_if (pt_not (pt_val (pe_c hC hr (pa_cons (pv 2) (pa_cons (pe_c hP hr (pa_cons (pv 0) (pa_cons (pv 2) (pa_cons pe_int pa_nil)))) pa_nil))))) (pss_one (ps_ret pe_bl)) pss_nil))))
      (pss_one (ps_ret pe_bl)), ?_⟩
    refine ⟨2, rfl, by decide, by decide, ?_⟩
    have e2 : ((2 : Int)).toNat = 2 := rfl
    rw [e2]
    refine for_it (walk_range (lo := (0 : Int)) (n := 2)) (fun i σ H' => ∃ (y1 y2 : Option V), σ = [some (.ref a), y1, y2] ∧ SameX a H H' ∧ BoxAt H' a (i * 100))
      ⟨none, none, rfl, SameX.refl a H, hB⟩ (fun _ _ _ _ _ => trivial) (fun i z σ H1 H2 hi p yv => ?_) (fun σ H1 p => ?_)
    · obtain ⟨rfl, rfl⟩ := yv
      obtain ⟨y1, y2, rfl, x1, hB1⟩ := p
      refine ⟨_, rfl, _, rfl, a, i * 100, 3, rfl, hB1, by omega, by decide, by decide, fun r H3 x3 hB3 hr3 => ⟨4, (r : Int), rfl, rfl, ?_⟩⟩
      have pn : Plain (4 + r) := by
        rcases (show r = 0 ∨ r = 1 ∨ r = 2 by omega) with e | e | e
        · rw [e]; exact p4
        · rw [e]; exact p5
        · rw [e]; exact p6
      obtain ⟨M, hD, hcase⟩ := pn
      refine ⟨a, i * 100 + 1, 1, 4 + r, ?_, hB3, by omega, by omega, by omega, by omega, fun t vt H4 x4 hB4 ht mt => ?_⟩
      · show [V.ref a, V.int 1, V.int (4 + (r : Int))] = [V.ref a, vn 1, vn (4 + r)]
        have : (4 : Int) + (r : Int) = ((4 + r : Nat) : Int) := by omega
        rw [this]
        rfl
      refine ⟨_, rfl, _, rfl, _, rfl, a, _, t, vt, fun u => u ∈ every 7 1 (4 + r) ∧ goes t u = true, rfl, hB4, by omega, ht, ⟨mt, fitsL_refl _⟩, fun u hu => ⟨hD.ht u hu.1, hD.len u hu.1, fun u' hu' => ⟨(hD.aft u hu.1 u' hu').1, hD.push t mt u hu.1 hu.2 u' hu'⟩⟩, fun t' vt' H5 x5 hB5 ht' hG' => ?_⟩
      refine ⟨_, M, 4 + r - 1, t, t', _, _, rfl, hcase t mt t' hG'.1 hG'.2, ht.tup (hB4.tup x5), ht', fun H6 s6 => ⟨_, rfl, iteF ?_⟩⟩
      exact ⟨_, _, rfl, (x1.trans (x3.trans (x4.trans x5))).then s6, (hB5.mono s6).up (by omega)⟩
    · obtain ⟨y1, y2, rfl, x1, _⟩ := p
      exact q H1 x1
/-! ### law -/
theorem scLaw : FnScope ["_law_script", "_law_left_so", "_law_right_so", "_law_tree_so", "_law_cells_here", "_law_k"] ["_law_script"] (defScope (topS 46)) := ⟨rfl, rfl, rfl, by decide +kernel, rfl, by decide +kernel, by decide +kernel⟩
def l1 : T := .leaf 1
def lf4 : T := .node (.node (.node (.leaf 1) (.leaf 2)) (.leaf 3)) (.leaf 4)
def rt4 : T := .node (.leaf 1) (.node (.leaf 2) (.node (.leaf 3) (.leaf 4)))
def ta5 : T := .node (.node (.node (.leaf 1) (.leaf 2)) (.leaf 3)) (.node (.leaf 4) (.leaf 5))
def tb5 : T := .node (.node (.node (.node (.leaf 1) (.leaf 2)) (.leaf 3)) (.leaf 4)) (.leaf 5)
def rt5 : T := .node (.leaf 1) (.node (.leaf 2) (.node (.leaf 3) (.node (.leaf 4) (.leaf 5))))
def spLaw (K : PySem.W.Frag) : Sp := fun vs H Q _ => ∃ (a : Addr) (ns : List Int), vs = [.ref a] ∧ SqL K H a (ns.map V.int) ∧ ns.length ≤ 63 ∧ Plain 1 ∧ Plain 4 ∧ Plain 5 ∧ Plain 6 ∧ ∀ H', Q (.bl true) H'
theorem same_of2 {p : Addr} {H H1 H2 : Hp} (a : Same H H1) (b : SameX p H1 H2) (h : H p = none) : Same H H2 := fun c u e => b c u (fun z => by rw [z, h] at e; cases e) (a c u e)
theorem upd_at {H : Hp} {p : Addr} (_ : H p = none) (o : HO) : upd H p o p = some o := upd_same
theorem two : 2 ≤ sizeLine := by decide
/-- a pair newly laid -/
theorem node_new {H : Hp} {l r : T} {x y : V} {p : Addr} (np : H p = none) (hx : TAt H l x) (hy : TAt H r y) : TAt (upd H p (.tup [x, y])) (.node l r) (.ref p) ∧ Same H (upd H p (.tup [x, y])) :=
  ⟨⟨p, x, y, rfl, upd_same, hx.mono (same_new np), hy.mono (same_new np)⟩, same_new np⟩
theorem law_ok {f : Addr} {fd : FuncData} (F : Fun K "law" "law" (topS 46) f fd) (B : Bi mg) (hC : Has P w K mg base "_law_case_right" 24 spCase) (hR : Has P w K mg base "_law_right" 25 spRight) (hB : Has P w K mg base "_law_box" 1 spBox) (hCe : Has P w K mg base "_law_cells" 1 (spCells K)) :
    FnOk P w K mg base CX0 26 f fd ["_law_script"] (spLaw K) := by
  refine F.ok scLaw (fun vs H Q E h => ?_) (fun cdv Ar outer sh H vs Q E hr h => ?_)
  · obtain ⟨a, ns, rfl, _⟩ := h
    rfl
  · obtain ⟨a, ns, rfl, ha, hn, p1, p4, p5, p6, q⟩ := h
    refine ⟨_, pss_cons (ps_asg (pe_tup (pa_cons (pe_tup (pa_cons (pe_tup (pa_cons (pe_tup (pa_cons pe_int (pa_cons pe_int pa_nil))) (pa_cons pe_int pa_nil))) (pa_cons pe_int pa_nil)))
          (pa_cons (pe_tup (pa_cons pe_int (pa_cons (pe_tup (pa_cons pe_int (pa_cons (pe_tup (pa_cons pe_int (pa_cons pe_int pa_nil))) pa_nil))) pa_nil))) pa_nil)))
          (pg_tup (by rfl) (pgs_cons (pg_name (i := 1) scLaw.nd rfl (.inl rfl)) (pgs_cons (pg_name (i := 2) scLaw.nd rfl (.inl rfl)) pgs_nil))))
      (pss_cons (ps_if (PW.pt (pw_or (pt_not (pt_val (pe_c hC hr (pa_cons (pv 1) (pa_cons (pv 2) pa_nil))))) (pw_or (pt_not (pt_val (pe_c hC hr (pa_cons pe_int (pa_cons pe_int pa_nil))))) (pw_or1 (pt_not (pt_val (pe_c hC hr (pa_cons (pv 2) (pa_cons (pv 2) pa_nil))))))))) (pss_one (ps_ret pe_bl)) pss_nil)
      (pss_cons (ps_for PassesOwn.never rfl (pi_tup (pe_tup (pa_cons (pe_tup (pa_cons (pe_tup (pa_cons (pe_tup (pa_cons pe_int (pa_cons pe_int pa_nil))) (pa_cons pe_int pa_nil))) (pa_cons (pe_tup (pa_cons pe_int (pa_cons pe_int pa_nil))) pa_nil)))
          (pa_cons (pe_tup (pa_cons (pe_tup (pa_cons (pe_tup (pa_cons (pe_tup (pa_cons pe_int (pa_cons pe_int pa_nil))) (pa_cons pe_int pa_nil))) (pa_cons pe_int pa_nil))) (pa_cons pe_int pa_nil))) pa_nil)))) (pg_name (i := 3) scLaw.nd rfl (.inl rfl))
        (pss_one (ps_if (pt_not (pt_val (pe_c hC hr (pa_cons (pv 3) (pa_cons (pe_tup (pa_cons pe_int (pa_cons (pe_tup (pa_cons pe_int (pa_cons (pe_tup (pa_cons pe_int (pa_cons (pe_tup (pa_cons pe_int (pa_cons pe_int pa_nil))) pa_nil))) pa_nil))) pa_nil))) pa_nil))))) (pss_one (ps_ret pe_bl)) pss_nil)))
      (pss_cons (ps_set (i := 4) scLaw.nd rfl (Or.inr rfl) (pe_c hCe hr (pa_cons (pv 0) (pa_cons pe_int pa_nil))))
      (pss_one (ps_ret (pe_callB (cAll (K := K)) (by rfl) B.all (by decide +kernel) (pa_cons
          (pe_lc (own := [("_law_k", 5)]) (g := gName 5) (tt := tYes) (by rfl) scLaw.nd (pi_range1 (by rfl) B.range (pa_cons (pe_callB (cLen (K := K)) (by rfl) B.len PySem.boot_len (pa_cons (pv 4) pa_nil)) pa_nil))
            (blkOk_by (own := [("_law_k", 5)]) (N := ["_law_script", "_law_left_so", "_law_right_so", "_law_tree_so", "_law_cells_here", "_law_k"]) (sc := defScope (topS 46)) (by decide +kernel))
            (fun _ _ _ _ _ => pg_name (i := 5) scLaw.nd rfl (Or.inl rfl)) (fun _ _ _ _ _ => pts_nil)
            (fun _ _ _ _ _ => pe_c hR hr (pa_cons (pe_c hB hr (pa_cons (pv 4) (pa_cons (pv 5) pa_nil))) pa_nil))) pa_nil))))))), ?_⟩
    obtain ⟨M1, D1, C1⟩ := p1
    obtain ⟨M4, D4, C4⟩ := id p4
    obtain ⟨M5, D5, C5⟩ := id p5
    refine ⟨two, fun q1 n1 => ⟨two, fun q2 n2 => ⟨two, fun q3 n3 => ⟨two, fun q4 n4 => ⟨two, fun q5 n5 => ⟨two, fun q6 n6 => ⟨two, fun q7 n7 => ?_⟩⟩⟩⟩⟩⟩⟩
    have t1 := node_new n1 (show TAt H (.leaf 1) (V.int 1) from rfl) (show TAt H (.leaf 2) (V.int 2) from rfl)
    have t2 := node_new n2 t1.1 (show TAt _ (.leaf 3) (V.int 3) from rfl)
    have t3 := node_new n3 t2.1 (show TAt _ (.leaf 4) (V.int 4) from rfl)
    have u1 := node_new n4 (show TAt _ (.leaf 3) (V.int 3) from rfl) (show TAt _ (.leaf 4) (V.int 4) from rfl)
    have u2 := node_new n5 (show TAt _ (.leaf 2) (V.int 2) from rfl) u1.1
    have u3 := node_new n6 (show TAt _ (.leaf 1) (V.int 1) from rfl) u2.1
    have s13 := t1.2.trans (t2.2.trans t3.2)
    have s36 := u1.2.trans (u2.2.trans u3.2)
    have s7 := same_new (o := .tup [V.ref q3, V.ref q6]) n7
    have tL := (t3.1.mono s36).mono s7
    have tR := u3.1.mono s7
    have s07 := s13.trans (s36.trans s7)
    refine g2 upd_same ?_
    generalize (upd _ q7 (.tup [V.ref q3, V.ref q6])) = H7 at tL tR s07
    have cLR := C4 lf4 (by decide +kernel) rt4 (by decide +kernel) (by decide +kernel)
    have cRR := C4 rt4 (by decide +kernel) rt4 (by decide +kernel) (by decide +kernel)
    have c11 := C1 l1 (by decide +kernel) l1 (by decide +kernel) (by decide +kernel)
    refine ⟨_, rfl, _, rfl, _, _, _, _, _, _, _, rfl, cLR, tL, tR, fun H8 s8 => ⟨_, rfl, iteF ?_⟩⟩
    refine ⟨_, _, _, _, _, _, _, rfl, c11, rfl, rfl, fun H9 s9 => ⟨_, rfl, iteF ?_⟩⟩
    have s79 := s8.trans s9
    refine ⟨_, rfl, _, rfl, _, _, _, _, _, _, _, rfl, cRR, tR.mono s79, tR.mono s79, fun Ha sa => ⟨_, rfl, iteF ?_⟩⟩
    have s0a := s07.trans (s79.trans sa)
    -- the five-factor ones
    have cA := C5 ta5 (by decide +kernel) rt5 (by decide +kernel) (by decide +kernel)
    have cB := C5 tb5 (by decide +kernel) rt5 (by decide +kernel) (by decide +kernel)
    refine ⟨two, fun q1 n1 => ⟨two, fun q2 n2 => ⟨two, fun q3 n3 => ⟨two, fun q4 n4 => ⟨two, fun q5 n5 => ⟨two, fun q6 n6 => ⟨two, fun q7 n7 => ⟨two, fun q8 n8 => ⟨two, fun q9 n9 => ?_⟩⟩⟩⟩⟩⟩⟩⟩⟩
    have a1 := node_new n1 (show TAt Ha (.leaf 1) (V.int 1) from rfl) (show TAt Ha (.leaf 2) (V.int 2) from rfl)
    have a2 := node_new n2 a1.1 (show TAt _ (.leaf 3) (V.int 3) from rfl)
    have a3 := node_new n3 (show TAt _ (.leaf 4) (V.int 4) from rfl) (show TAt _ (.leaf 5) (V.int 5) from rfl)
    have a4 := node_new n4 (a2.1.mono a3.2) a3.1
    have b1 := node_new n5 (show TAt _ (.leaf 1) (V.int 1) from rfl) (show TAt _ (.leaf 2) (V.int 2) from rfl)
    have b2 := node_new n6 b1.1 (show TAt _ (.leaf 3) (V.int 3) from rfl)
    have b3 := node_new n7 b2.1 (show TAt _ (.leaf 4) (V.int 4) from rfl)
    have b4 := node_new n8 b3.1 (show TAt _ (.leaf 5) (V.int 5) from rfl)
    have sa4 := a1.2.trans (a2.2.trans (a3.2.trans a4.2))
    have s48 := b1.2.trans (b2.2.trans (b3.2.trans b4.2))
    have s9' := same_new (o := .tup [V.ref q4, V.ref q8]) n9
    have tA := (a4.1.mono s48).mono s9'
    have tB := b4.1.mono s9'
    have s0b := s0a.trans (sa4.trans (s48.trans s9'))
    have hq9 := upd_at n9 (.tup [V.ref q4, V.ref q8])
    refine ⟨q9, rfl, ⟨_, SqT.of hq9⟩, ?_⟩
    generalize (upd _ q9 (.tup [V.ref q4, V.ref q8])) = Hb at tA tB s0b hq9
    refine for_it (walk_tup (K := K) (a := q9) (xs := [V.ref q4, V.ref q8])) (fun i σ H' => ∃ (y1 y2 y3 y4 y5 : Option V), σ = [some (.ref a), y1, y2, y3, y4, y5] ∧ Same Hb H')
      ⟨_, _, _, _, _, rfl, Same.refl _⟩ (fun i σ H' _ p => by obtain ⟨_, _, _, _, _, _, sp⟩ := p; exact SqT.of (sp _ _ hq9)) (fun i z σ Hc Hd hi p yv => ?_) (fun σ Hc p => ?_)
    · obtain ⟨rfl, hz⟩ := yv
      obtain ⟨y1, y2, y3, y4, y5, rfl, sc⟩ := p
      refine ⟨_, rfl, two, fun r1 m1 => ⟨two, fun r2 m2 => ⟨two, fun r3 m3 => ⟨two, fun r4 m4 => ?_⟩⟩⟩⟩
      have v1 := node_new m1 (show TAt Hd (.leaf 4) (V.int 4) from rfl) (show TAt Hd (.leaf 5) (V.int 5) from rfl)
      have v2 := node_new m2 (show TAt _ (.leaf 3) (V.int 3) from rfl) v1.1
      have v3 := node_new m3 (show TAt _ (.leaf 2) (V.int 2) from rfl) v2.1
      have v4 := node_new m4 (show TAt _ (.leaf 1) (V.int 1) from rfl) v3.1
      have sv := v1.2.trans (v2.2.trans (v3.2.trans v4.2))
      have hT : ∃ s, CaseP (every 7 1 5) M5 (5 - 1) s rt5 ∧ TAt Hb s z := by
        match i, hi, hz with
        | 0, _, hz => cases hz; exact ⟨ta5, cA, tA⟩
        | 1, _, hz => cases hz; exact ⟨tb5, cB, tB⟩
      obtain ⟨s, cs, hs⟩ := hT
      refine ⟨_, _, _, _, _, _, _, rfl, cs, (hs.mono sc).mono sv, v4.1, fun He se => ⟨_, rfl, iteF ?_⟩⟩
      exact ⟨_, _, _, _, _, rfl, sc.trans (sv.trans se)⟩
    · obtain ⟨y1, y2, y3, y4, y5, rfl, sc⟩ := p
      have s0c := s0b.trans sc
      refine ⟨_, rfl, a, ns, rfl, s0c.seq ha, by omega, fun pc ms Hd sd hc h0 h2 => ?_⟩
      refine ⟨_, rfl, pc, _, rfl, .inl (SqL.of hc), _, rfl, by rw [List.length_map]; omega, by rw [List.length_map]; omega, fun D hD => ?_⟩
      have en : (((ms.map V.int).length : Nat) : Int).toNat = ms.length := by rw [List.length_map]; omega
      rw [en]
      refine lc_gen (walk_range (lo := (0 : Int)) (n := ms.length)) (by omega) hD (fun i H z => z = V.bl true) (fun _ => true) (fun _ _ _ _ _ h => h) (fun _ _ => trivial)
        (fun i z He Hf Ky Kn hi se hy ky kn => ?_) (fun zs He se hDe de => ?_)
      · obtain ⟨rfl, rfl⟩ := hy
        have ez : (fun i : Nat => V.int ((0 : Int) + (i : Int))) i = vn i := vzero i
        rw [ez]
        refine ⟨rfl, yes_el ⟨_, rfl, _, rfl, pc, ms, i, rfl, se _ _ hc, hi, by omega, fun pb Hg nb sg hB => ⟨pb, rfl, hB, p4, p5, p6, fun Hh xh => ky rfl _ _ (same_of2 sg xh nb) rfl⟩⟩⟩
      · have ezs := pairedEq (f := fun _ => V.bl true) de
        rw [range_yes] at ezs
        refine ⟨D, (List.range ms.length).map fun _ => true, rfl, SqL.of (by rw [hDe, ezs, List.map_map]; rfl), ?_⟩
        have eall : ((List.range ms.length).map fun _ => true).all id = true := List.all_eq_true.mpr fun x hx => by
          obtain ⟨_, _, e⟩ := List.mem_map.mp hx
          rw [← e]
          rfl
        rw [eall]
        exact q He
end
end Rg

/-! the plain law, by the kernel -/
namespace Rg
open PySem PySem.Spec PyProof.Rows L2
def eqT : T → T → Bool
  | .leaf a, .leaf b => Nat.beq a b
  | .node a b, .node c d => eqT a c && eqT b d
  | _, _ => false
theorem eqT_iff : ∀ {s t : T}, eqT s t = true → s = t
  | .leaf a, .leaf b, h => by rw [Nat.eq_of_beq_eq_true h]
  | .leaf _, .node _ _, h => nomatch h
  | .node _ _, .leaf _, h => nomatch h
  | .node a b, .node c d, h => by
    have h' : (eqT a c && eqT b d) = true := h
    rw [Bool.and_eq_true] at h'
    rw [eqT_iff h'.1, eqT_iff h'.2]
def rokG (n : Nat) : Nat → List Nat → Bool
  | _, [] => true
  | i, x :: xs => Nat.ble (i + 2) x && (Nat.ble x (n + 1) && rokG n (i + 1) xs)
def rokB (n : Nat) (r : List Nat) : Bool := Nat.beq r.length n && rokG n 0 r
theorem rokG_at {n : Nat} : ∀ {r : List Nat} {k i x : Nat}, rokG n k r = true → r[i]? = some x → k + i + 2 ≤ x ∧ x ≤ n + 1
  | [], _, _, _, _, h => by simp at h
  | y :: ys, k, i, x, h, hx => by
    have h' : (Nat.ble (k + 2) y && (Nat.ble y (n + 1) && rokG n (k + 1) ys)) = true := h
    rw [Bool.and_eq_true, Bool.and_eq_true] at h'
    cases i with
    | zero =>
      have e : y = x := by simpa using hx
      rw [← e]
      exact ⟨Nat.le_of_ble_eq_true h'.1, Nat.le_of_ble_eq_true h'.2.1⟩
    | succ i =>
      have := rokG_at h'.2.2 (i := i) (x := x) (by simpa using hx)
      omega
theorem rokB_ok {n : Nat} {r : List Nat} (h : rokB n r = true) : ROk n r := by
  unfold rokB at h
  rw [Bool.and_eq_true] at h
  refine ⟨Nat.eq_of_beq_eq_true h.1, fun i x hx => ?_⟩
  have := rokG_at h.2 hx
  omega
def domB (n M : Nat) (E : List T) : Bool :=
  (E.all fun s => Nat.blt s.ht 8 && (Nat.beq s.reach.length (n - 1) && (rokB (n - 1) s.reach && ((s.after.all fun x => E.any (eqT x) && Nat.blt s.reach.sum x.reach.sum) && (Nat.ble s.reach.sum M && (Nat.ble (M + 1 - s.reach.sum) 11 && Nat.ble s.after.length 4)))))) &&
  (E.all fun s => E.all fun t => (!eqL s.reach t.reach || eqT s t) && (!goes s t || (Nat.beq (onF 12 s t) (onF 13 s t) && ((t.after.all fun x => goes s x) && Nat.blt (onF 12 s t) 1000000))))
def dataB (n : Nat) (rows : List (List Nat)) (s t : T) : Bool :=
  bfsOk 12 t.reach [s.reach] && (rows.all (rokB (n - 1)) && (!rows.isEmpty && (Nat.ble rows.length 1000 && ((lensRun t.reach rows.reverse []).isSome && closed t.reach rows))))
def goodB (d : D) : Bool :=
  (look d.lens d.first).isSome && ((d.lens.all fun p => !decide (rowHash p.1 = hNone)) && ((d.own.all fun q => Nat.blt q.1 1000000 && Nat.blt q.2 1000000) && ((d.to.all fun p => Nat.blt p.2 1000000) && (Nat.blt 0 d.many && Nat.blt d.many 1000000))))
def sumsB (n : Nat) (E : List T) (s t : T) (d : D) : Bool :=
  d.adds (n - 1) 3 [] && (Nat.beq d.many (onF 12 s t) && (Nat.beq (E.map d.through).sum (stops d) && (Nat.beq (d.through s) d.many &&
    (E.all fun o => if goes s o && goes o t then Nat.beq (d.through o) (onF 12 s o * onF 12 o t) else Nat.beq (d.through o) 0))))
def caseB (n : Nat) (E : List T) (s t : T) : Bool := dataB n (rowsOn s.reach t.reach) s t && (goodB (mk s t) && sumsB n E s t (mk s t))
def plainB (n M : Nat) (E : List T) : Bool := domB n M E && (E.all fun s => E.all fun t => !goes s t || caseB n E s t)
theorem or_f {a b : Bool} (h : (!a || b) = true) (ha : a = true) : b = true := by rw [ha] at h; exact h
theorem blt_t {a b : Nat} (h : Nat.blt a b = true) : a < b := by rw [Nat.blt_eq] at h; exact h
theorem plain_of {n M : Nat} (hn : n ≤ 6) (hn1 : 1 ≤ n) (h : plainB n M (every 7 1 n) = true) : Plain n := by
  generalize hE : every 7 1 n = E at h
  unfold plainB at h
  rw [Bool.and_eq_true] at h
  obtain ⟨hd, hc⟩ := h
  unfold domB at hd
  rw [Bool.and_eq_true] at hd
  obtain ⟨h1, h2⟩ := hd
  have f1 := fun s hs => List.all_eq_true.mp h1 s hs
  have f2 := fun s hs t ht => List.all_eq_true.mp (List.all_eq_true.mp h2 s hs) t ht
  have f3 := fun s hs t ht => List.all_eq_true.mp (List.all_eq_true.mp hc s hs) t ht
  simp only [Bool.and_eq_true] at f1 f2
  have D : DomP E M := by
    refine ⟨fun s hs => blt_t (f1 s hs).1, fun s hs => ?_, fun s hs t ht => ?_, fun s hs t ht e => ?_, fun s hs x hx => ?_, fun s hs => Nat.le_of_ble_eq_true (f1 s hs).2.2.2.2.1, fun s hs => Nat.le_of_ble_eq_true (f1 s hs).2.2.2.2.2.1,
      fun s hs => Nat.le_of_ble_eq_true (f1 s hs).2.2.2.2.2.2, fun s hs t ht g => ?_, fun s hs t ht g x hx => ?_⟩
    · have := Nat.eq_of_beq_eq_true (f1 s hs).2.1
      omega
    · rw [Nat.eq_of_beq_eq_true (f1 s hs).2.1, Nat.eq_of_beq_eq_true (f1 t ht).2.1]
    · exact eqT_iff (or_f (f2 s hs t ht).1 (eqL_iff.mpr e))
    · have := List.all_eq_true.mp (f1 s hs).2.2.2.1 x hx
      rw [Bool.and_eq_true] at this
      obtain ⟨y, hy, e⟩ := List.any_eq_true.mp this.1
      exact ⟨by rw [eqT_iff e]; exact hy, blt_t this.2⟩
    · have := or_f (f2 s hs t ht).2 g
      rw [Bool.and_eq_true] at this
      exact Nat.eq_of_beq_eq_true this.1
    · have := or_f (f2 s hs t ht).2 g
      rw [Bool.and_eq_true, Bool.and_eq_true] at this
      exact List.all_eq_true.mp this.2.1 x hx
  refine ⟨M, by rw [hE]; exact D, fun s hs t ht g => ?_⟩
  rw [hE] at hs ht ⊢
  have c := or_f (f3 s hs t ht) g
  unfold caseB at c
  simp only [Bool.and_eq_true] at c
  obtain ⟨cd, cg, cs⟩ := c
  unfold dataB at cd
  unfold goodB at cg
  unfold sumsB at cs
  simp only [Bool.and_eq_true] at cd cg cs
  obtain ⟨d1, d2, d3, d4, d5, d6⟩ := cd
  obtain ⟨g1, g2, g3, g4, g5, g6⟩ := cg
  obtain ⟨s1, s2, s3, s4, s5⟩ := cs
  have ls := Nat.eq_of_beq_eq_true (f1 s hs).2.1
  have lt := Nat.eq_of_beq_eq_true (f1 t ht).2.1
  have good : GoodD (n - 1) (mk s t) := by
    refine ⟨by omega, rokB_ok (f1 s hs).2.2.1, lt, Option.isSome_iff_exists.mp g1, fun p hp => ?_, fun q hq => ?_, fun r => ?_, blt_t g5, blt_t g6⟩
    · have := List.all_eq_true.mp g2 p hp
      intro e
      rw [decide_eq_true e] at this
      cases this
    · have := List.all_eq_true.mp g3 q hq
      rw [Bool.and_eq_true] at this
      exact ⟨blt_t this.1, blt_t this.2⟩
    · cases hl : look (mk s t).to r with
      | none => exact (by decide : (0 : Nat) < 1000000)
      | some c =>
        obtain ⟨p, hp, _, e⟩ := look_at hl
        have := blt_t (List.all_eq_true.mp g4 p hp)
        rw [e] at this
        exact this
  refine ⟨D, hs, ht, g, ⟨ls, lt, by omega, blt_t (f1 s hs).1, blt_t (f1 t ht).1, g, rokB_ok (f1 s hs).2.2.1, d1, fun r hr => rokB_ok (List.all_eq_true.mp d2 r hr), fun e => ?_, Nat.le_of_ble_eq_true d4, d5, d6, good⟩, by omega, by rw [← hE]; congr 1; omega, s1, Nat.eq_of_beq_eq_true s2, Nat.eq_of_beq_eq_true s3, Nat.eq_of_beq_eq_true s4,
    fun o ho a b => ?_, fun o ho a => ?_, fun o ho a => ?_⟩
  · rw [e] at d3
    cases d3
  · have := List.all_eq_true.mp s5 o ho
    rw [if_pos ⟨a, b⟩] at this
    exact Nat.eq_of_beq_eq_true this
  · have := List.all_eq_true.mp s5 o ho
    rw [if_neg (fun z => by rw [z.1, z.2] at a; cases a)] at this
    exact Nat.eq_of_beq_eq_true this
  · have := or_f (f2 s hs o ho).2 a
    rw [Bool.and_eq_true, Bool.and_eq_true] at this
    exact blt_t this.2.2
/-- all groupings behind s -/
def rowC (n : Nat) (E : List T) (s : T) : Bool := E.all fun t => !goes s t || caseB n E s t
theorem all_at {α : Type} {p : α → Bool} {d : α} : ∀ (l : List α), (∀ i, i < l.length → p (l.getD i d) = true) → l.all p = true
  | [], _ => rfl
  | x :: l, h => by
    rw [List.all_cons, Bool.and_eq_true]
    exact ⟨h 0 (Nat.succ_pos _), all_at l fun i hi => h (i + 1) (Nat.succ_lt_succ hi)⟩
theorem plain1 : Plain 1 := plain_of (M := 0) (by decide) (by decide) (by decide +kernel)
theorem plain4 : Plain 4 := plain_of (M := 12) (by decide) (by decide) (by decide +kernel)
theorem plain5 : Plain 5 := plain_of (M := 20) (by decide) (by decide) (by decide +kernel)
end Rg

namespace Rg
theorem d6 : domB 6 30 (every 7 1 6) = true := by decide +kernel
theorem c6n0 : rowC 6 (every 7 1 6) ((every 7 1 6).getD 0 l1) = true := by decide +kernel
theorem c6n1 : rowC 6 (every 7 1 6) ((every 7 1 6).getD 1 l1) = true := by decide +kernel
theorem c6n2 : rowC 6 (every 7 1 6) ((every 7 1 6).getD 2 l1) = true := by decide +kernel
theorem c6n3 : rowC 6 (every 7 1 6) ((every 7 1 6).getD 3 l1) = true := by decide +kernel
theorem c6n4 : rowC 6 (every 7 1 6) ((every 7 1 6).getD 4 l1) = true := by decide +kernel
theorem c6n5 : rowC 6 (every 7 1 6) ((every 7 1 6).getD 5 l1) = true := by decide +kernel
theorem c6n6 : rowC 6 (every 7 1 6) ((every 7 1 6).getD 6 l1) = true := by decide +kernel
theorem c6n7 : rowC 6 (every 7 1 6) ((every 7 1 6).getD 7 l1) = true := by decide +kernel
theorem c6n8 : rowC 6 (every 7 1 6) ((every 7 1 6).getD 8 l1) = true := by decide +kernel
theorem c6n9 : rowC 6 (every 7 1 6) ((every 7 1 6).getD 9 l1) = true := by decide +kernel
theorem c6n10 : rowC 6 (every 7 1 6) ((every 7 1 6).getD 10 l1) = true := by decide +kernel
theorem c6n11 : rowC 6 (every 7 1 6) ((every 7 1 6).getD 11 l1) = true := by decide +kernel
theorem c6n12 : rowC 6 (every 7 1 6) ((every 7 1 6).getD 12 l1) = true := by decide +kernel
theorem c6n13 : rowC 6 (every 7 1 6) ((every 7 1 6).getD 13 l1) = true := by decide +kernel
theorem c6n14 : rowC 6 (every 7 1 6) ((every 7 1 6).getD 14 l1) = true := by decide +kernel
theorem c6n15 : rowC 6 (every 7 1 6) ((every 7 1 6).getD 15 l1) = true := by decide +kernel
theorem c6n16 : rowC 6 (every 7 1 6) ((every 7 1 6).getD 16 l1) = true := by decide +kernel
theorem c6n17 : rowC 6 (every 7 1 6) ((every 7 1 6).getD 17 l1) = true := by decide +kernel
theorem c6n18 : rowC 6 (every 7 1 6) ((every 7 1 6).getD 18 l1) = true := by decide +kernel
theorem c6n19 : rowC 6 (every 7 1 6) ((every 7 1 6).getD 19 l1) = true := by decide +kernel
theorem c6n20 : rowC 6 (every 7 1 6) ((every 7 1 6).getD 20 l1) = true := by decide +kernel
theorem c6n21 : rowC 6 (every 7 1 6) ((every 7 1 6).getD 21 l1) = true := by decide +kernel
theorem c6n22 : rowC 6 (every 7 1 6) ((every 7 1 6).getD 22 l1) = true := by decide +kernel
theorem c6n23 : rowC 6 (every 7 1 6) ((every 7 1 6).getD 23 l1) = true := by decide +kernel
theorem c6n24 : rowC 6 (every 7 1 6) ((every 7 1 6).getD 24 l1) = true := by decide +kernel
theorem c6n25 : rowC 6 (every 7 1 6) ((every 7 1 6).getD 25 l1) = true := by decide +kernel
theorem c6n26 : rowC 6 (every 7 1 6) ((every 7 1 6).getD 26 l1) = true := by decide +kernel
theorem c6n27 : rowC 6 (every 7 1 6) ((every 7 1 6).getD 27 l1) = true := by decide +kernel
theorem c6n28 : rowC 6 (every 7 1 6) ((every 7 1 6).getD 28 l1) = true := by decide +kernel
theorem c6n29 : rowC 6 (every 7 1 6) ((every 7 1 6).getD 29 l1) = true := by decide +kernel
theorem c6n30 : rowC 6 (every 7 1 6) ((every 7 1 6).getD 30 l1) = true := by decide +kernel
theorem c6n31 : rowC 6 (every 7 1 6) ((every 7 1 6).getD 31 l1) = true := by decide +kernel
theorem c6n32 : rowC 6 (every 7 1 6) ((every 7 1 6).getD 32 l1) = true := by decide +kernel
theorem c6n33 : rowC 6 (every 7 1 6) ((every 7 1 6).getD 33 l1) = true := by decide +kernel
theorem c6n34 : rowC 6 (every 7 1 6) ((every 7 1 6).getD 34 l1) = true := by decide +kernel
theorem c6n35 : rowC 6 (every 7 1 6) ((every 7 1 6).getD 35 l1) = true := by decide +kernel
theorem c6n36 : rowC 6 (every 7 1 6) ((every 7 1 6).getD 36 l1) = true := by decide +kernel
theorem c6n37 : rowC 6 (every 7 1 6) ((every 7 1 6).getD 37 l1) = true := by decide +kernel
theorem c6n38 : rowC 6 (every 7 1 6) ((every 7 1 6).getD 38 l1) = true := by decide +kernel
theorem c6n39 : rowC 6 (every 7 1 6) ((every 7 1 6).getD 39 l1) = true := by decide +kernel
theorem c6n40 : rowC 6 (every 7 1 6) ((every 7 1 6).getD 40 l1) = true := by decide +kernel
theorem c6n41 : rowC 6 (every 7 1 6) ((every 7 1 6).getD 41 l1) = true := by decide +kernel
theorem c6 : ∀ i, i < 42 → rowC 6 (every 7 1 6) ((every 7 1 6).getD i l1) = true
  | 0, _ => c6n0
  | 1, _ => c6n1
  | 2, _ => c6n2
  | 3, _ => c6n3
  | 4, _ => c6n4
  | 5, _ => c6n5
  | 6, _ => c6n6
  | 7, _ => c6n7
  | 8, _ => c6n8
  | 9, _ => c6n9
  | 10, _ => c6n10
  | 11, _ => c6n11
  | 12, _ => c6n12
  | 13, _ => c6n13
  | 14, _ => c6n14
  | 15, _ => c6n15
  | 16, _ => c6n16
  | 17, _ => c6n17
  | 18, _ => c6n18
  | 19, _ => c6n19
  | 20, _ => c6n20
  | 21, _ => c6n21
  | 22, _ => c6n22
  | 23, _ => c6n23
  | 24, _ => c6n24
  | 25, _ => c6n25
  | 26, _ => c6n26
  | 27, _ => c6n27
  | 28, _ => c6n28
  | 29, _ => c6n29
  | 30, _ => c6n30
  | 31, _ => c6n31
  | 32, _ => c6n32
  | 33, _ => c6n33
  | 34, _ => c6n34
  | 35, _ => c6n35
  | 36, _ => c6n36
  | 37, _ => c6n37
  | 38, _ => c6n38
  | 39, _ => c6n39
  | 40, _ => c6n40
  | 41, _ => c6n41
  | i + 42, h => absurd h (by omega)
theorem len6 : (every 7 1 6).length = 42 := by decide +kernel
theorem plain6 : Plain 6 := plain_of (M := 30) (by decide) (by decide) (by
  unfold plainB
  rw [d6, Bool.true_and]
  exact all_at (d := l1) (p := rowC 6 (every 7 1 6)) _ fun i hi => c6 i (by rw [len6] at hi; exact hi))
end Rg

namespace Rg
open PySem PySem.Spec PyProof.Rows L2
section
variable {K : PySem.W.Frag} {h : Heap} {mg : Str → Option Value} {x m q : Str} {st : Stmt} {f C p g : Addr} {rest : List Value} {od an : Option Addr} {sl : Array (Option Value)} {oc kV dc pm cd ct : Value}
theorem at_mk (X : K.In h) (G : h.Ns mainGlobals mg) (a : PySem.W.nsIn K mainGlobals x = some (some (.ref f))) (l : K.lookup f = some ⟨oc, od, .func (PySem.W.fnOf x x (defArgs st) (defBody st) (defScope st) .none kV dc pm an cd ct), sl⟩)
    (c : PySem.W.codeIn K cd x = true) (k : PySem.W.keepIn K (.ref f) = true) : At K mg x st := ⟨⟨f, _, fun_mk l c k, PySem.W.mg_of X G a⟩⟩
theorem atm_mk (a : PySem.W.findIn K (.ref C) m = some (some (.ref f))) (i : PySem.W.isFn K (.ref f) = true) (l : K.lookup f = some ⟨oc, od, .func (PySem.W.fnOf m q (defArgs st) (defBody st) (defScope st) .none kV dc pm an cd ct), sl⟩)
    (c : PySem.W.codeIn K cd q = true) (k : PySem.W.keepIn K (.ref f) = true) : AtM K C m q st := ⟨⟨f, _, fun_mk l c k, ⟨a, i, k⟩⟩⟩
theorem atp_mk (a : PySem.W.findIn K (.ref C) m = some (some (.ref p))) (s : PySem.W.specialIn K (.ref p) "__get__" = some (some (.builtin "property.__get__"))) (t : PySem.W.takesIn K (.ref p) = some true) (r : PySem.W.recIn K p "property" = some (.ref g :: rest))
    (l : K.lookup g = some ⟨oc, od, .func (PySem.W.fnOf m q (defArgs st) (defBody st) (defScope st) .none kV dc pm an cd ct), sl⟩) (c : PySem.W.codeIn K cd q = true) (k : PySem.W.keepIn K (.ref g) = true) : AtP K C m q st := ⟨⟨p, g, _, fun_mk l c k, ⟨a, s, t, ⟨rest, r⟩⟩⟩⟩
end
theorem law_all {P : Program} {w : World} {K : PySem.W.Frag} {mg : Str → Option Value} {base : Heap} {C f : Addr} {fd : FuncData} (B : Bi mg) (R : Ro K C) (mkC : PySem.W.makesIn K C = true) (kpC : PySem.W.keepIn K (.ref C) = true) (gC : mg "Routes" = some (.ref C)) (FL : Fun K "law" "law" (topS 46) f fd)
    (A6 : At K mg "tidy" (topS 6)) (A7 : At K mg "is_number" (topS 7)) (A8 : At K mg "fraction" (topS 8)) (A10 : At K mg "ends" (topS 10)) (A11 : At K mg "spans" (topS 11)) (A12 : At K mg "reaches" (topS 12)) (A14 : At K mg "check_alike" (topS 14)) (A15 : At K mg "why_not" (topS 15)) (A16 : At K mg "leads_to" (topS 16)) (A17 : At K mg "check_behind" (topS 17)) (A19 : At K mg "open_in" (topS 19)) (A20 : At K mg "stepped" (topS 20)) (A21 : At K mg "fits" (topS 21)) (A22 : At K mg "ways_on" (topS 22)) (A24 : At K mg "rows_on" (topS 24)) (A25 : At K mg "lengths_on" (topS 25)) (A26 : At K mg "many_to" (topS 26)) (A29 : At K mg "_law_box" (topS 29)) (A30 : At K mg "_law_take" (topS 30)) (A31 : At K mg "_law_cells" (topS 31)) (A32 : At K mg "_law_of" (topS 32)) (A33 : At K mg "_law_fraction" (topS 33)) (A34 : At K mg "_law_grouped" (topS 34)) (A35 : At K mg "_law_ends" (topS 35)) (A36 : At K mg "_law_pairs" (topS 36)) (A37 : At K mg "_law_arms" (topS 37)) (A38 : At K mg "_law_after" (topS 38)) (A39 : At K mg "_law_every" (topS 39)) (A40 : At K mg "_law_goes" (topS 40)) (A41 : At K mg "_law_pushed" (topS 41)) (A42 : At K mg "_law_on" (topS 42)) (A43 : At K mg "_law_adds_right" (topS 43)) (A44 : At K mg "_law_case_right" (topS 44)) (A45 : At K mg "_law_right" (topS 45)) (M0 : AtM K C "__init__" "Routes.__init__" (mS 0)) (M6 : AtM K C "on_from" "Routes.on_from" (mS 6)) (M7 : AtM K C "through" "Routes.through" (mS 7)) (M8 : AtM K C "share" "Routes.share" (mS 8)) (M10 : AtM K C "row_behind" "Routes.row_behind" (mS 10)) (M11 : AtM K C "beginning" "Routes.beginning" (mS 11)) (M13 : AtM K C "__contains__" "Routes.__contains__" (mS 13)) (Q3 : AtP K C "many" "Routes.many" (mS 3)) (Q4 : AtP K C "lengths" "Routes.lengths" (mS 4)) (Q5 : AtP K C "average" "Routes.average" (mS 5)) :
    FnOk P w K mg base CX0 26 f fd ["_law_script"] (spLaw K) := by
  have isn : Has P w K mg base "is_number" 1 spIsNum := has_isnum B A7
  have ends := has_ends A10 isn
  have spans := has_spans A11 isn ends 8
  have reaches := has_reaches B A12 spans
  have alike := has_alike B A14 reaches
  have why := has_why B A15 reaches alike
  have leads := has_leads A16 why
  have behind := has_behind A17 leads
  have tidy : Has P w K mg base "tidy" 8 (spTidy 8) := has_tidy B A6 8
  have frac : Has P w K mg base "fraction" 1 spFrac := has_frac B A8
  have opn : Has P w K mg base "open_in" 1 spOpen := has_open B A19
  have step : Has P w K mg base "stepped" 1 spStep := has_step A20
  have fits : Has P w K mg base "fits" 1 spFits := has_fits B A21
  have ways := has_ways A22 opn step fits
  have rows := has_rows B A24 ways step
  have lens := has_lens A25 ways step
  have mto := has_many A26 ways step
  have init := hm_init R M0 behind tidy reaches rows lens mto
  have pmany : HasP P w K mg base C "many" 1 (spMy C) := hp_many B R Q3
  have plens : HasP P w K mg base C "lengths" 1 (spLs C) := hp_lengths B R Q4
  have pavg := hp_average B R Q5 frac pmany plens
  have onf : HasM P w K mg base C "on_from" 1 (spOn C) := hm_on B R M6
  have thr := hm_through R M7 alike reaches onf
  have shr := hm_share R M8 frac pmany thr
  have beh := hm_behind R M10 ways step
  have beg := hm_beginning R M11 beh onf
  have hasj := hm_has R M13 beh
  have lfrac : Has P w K mg base "_law_fraction" 1 spFrac := has_lfrac B A33
  have lends : Has P w K mg base "_law_ends" 1 spEnds := has_lends B A35
  have lpairs := has_lpairs B A36 lends 8
  have larms := has_larms B A37 lpairs
  have lafter : Has P w K mg base "_law_after" 8 (spAfter 8) := has_lafter B A38 8
  have levery : Has P w K mg base "_law_every" 7 (spEvery 7) := has_levery B A39 7
  have lgoes := has_lgoes B A40 larms
  have ltake : Has P w K mg base "_law_take" 1 spTake := has_take B A30
  have lof := has_lof B A32 ltake
  have lgrp := has_lgrp A34 ltake 7
  have lpush := has_push B A41 ltake lafter lof
  have lon := has_lon B A42 larms lafter lgoes 11
  have ladds := has_adds B R A43 beg hasj 4
  have lcase := has_case (C := C) A44 ⟨B, R, mkC, kpC, gC, init, pmany, plens, pavg, thr, shr, levery, larms, ladds, lon, lgoes, lfrac⟩
  have lright := has_right B A45 lcase ltake lgrp lpush
  exact law_ok FL B lcase lright (has_box B A29) (has_cells B A31)
theorem finish {l : PySem.W.OpenLaw} {w : World} {K : PySem.W.Frag} {h : Heap} {mg : Str → Option Value} {fa C fL : Addr} {od an : Option Addr} {sl : Array (Option Value)} {oc kV dc pm cd ct : Value} (X : K.In h) (G : h.Ns mainGlobals mg) (hfa : mg "law" = some (.ref fa))
    (aC : PySem.W.nsIn K mainGlobals "Routes" = some (some (.ref C))) (pg : PySem.W.plainGet K C Str.empty = true) (hd : PySem.W.hasDictIn K C = true) (po : PySem.W.plainOver K C = true) (sa : PySem.W.findIn K (.ref C) "__setattr__" = some (some (.builtin "object.__setattr__"))) (mk : PySem.W.makesIn K C = true) (kc : PySem.W.keepIn K (.ref C) = true)
    (nown_start : PySem.W.findIn K (.ref C) "own_start" = some none) (nown_end : PySem.W.findIn K (.ref C) "own_end" = some none) (nown_first : PySem.W.findIn K (.ref C) "own_first" = some none) (nown_goal : PySem.W.findIn K (.ref C) "own_goal" = some none) (nown_rows : PySem.W.findIn K (.ref C) "own_rows" = some none) (nown_lengths : PySem.W.findIn K (.ref C) "own_lengths" = some none) (nown_to : PySem.W.findIn K (.ref C) "own_to" = some none)
    (zisinstance : PySem.W.nsIn K mainGlobals "isinstance" = some none) (zlist : PySem.W.nsIn K mainGlobals "list" = some none) (ztuple : PySem.W.nsIn K mainGlobals "tuple" = some none) (zint : PySem.W.nsIn K mainGlobals "int" = some none) (zbool : PySem.W.nsIn K mainGlobals "bool" = some none) (zabs : PySem.W.nsIn K mainGlobals "abs" = some none) (zany : PySem.W.nsIn K mainGlobals "any" = some none) (zenumerate : PySem.W.nsIn K mainGlobals "enumerate" = some none) (zall : PySem.W.nsIn K mainGlobals "all" = some none) (zlen : PySem.W.nsIn K mainGlobals "len" = some none) (zsorted : PySem.W.nsIn K mainGlobals "sorted" = some none) (zset : PySem.W.nsIn K mainGlobals "set" = some none) (zsum : PySem.W.nsIn K mainGlobals "sum" = some none) (zrange : PySem.W.nsIn K mainGlobals "range" = some none) (zzip : PySem.W.nsIn K mainGlobals "zip" = some none)
    (aL : PySem.W.nsIn K mainGlobals "law" = some (some (.ref fL))) (lL : K.lookup fL = some ⟨oc, od, .func (PySem.W.fnOf "law" "law" (defArgs (topS 46)) (defBody (topS 46)) (defScope (topS 46)) .none kV dc pm an cd ct), sl⟩) (cL : PySem.W.codeIn K cd "law" = true) (kL : PySem.W.keepIn K (.ref fL) = true)
    (A6 : At K mg "tidy" (topS 6)) (A7 : At K mg "is_number" (topS 7)) (A8 : At K mg "fraction" (topS 8)) (A10 : At K mg "ends" (topS 10)) (A11 : At K mg "spans" (topS 11)) (A12 : At K mg "reaches" (topS 12)) (A14 : At K mg "check_alike" (topS 14)) (A15 : At K mg "why_not" (topS 15)) (A16 : At K mg "leads_to" (topS 16)) (A17 : At K mg "check_behind" (topS 17)) (A19 : At K mg "open_in" (topS 19)) (A20 : At K mg "stepped" (topS 20)) (A21 : At K mg "fits" (topS 21)) (A22 : At K mg "ways_on" (topS 22)) (A24 : At K mg "rows_on" (topS 24)) (A25 : At K mg "lengths_on" (topS 25)) (A26 : At K mg "many_to" (topS 26)) (A29 : At K mg "_law_box" (topS 29)) (A30 : At K mg "_law_take" (topS 30)) (A31 : At K mg "_law_cells" (topS 31)) (A32 : At K mg "_law_of" (topS 32)) (A33 : At K mg "_law_fraction" (topS 33)) (A34 : At K mg "_law_grouped" (topS 34)) (A35 : At K mg "_law_ends" (topS 35)) (A36 : At K mg "_law_pairs" (topS 36)) (A37 : At K mg "_law_arms" (topS 37)) (A38 : At K mg "_law_after" (topS 38)) (A39 : At K mg "_law_every" (topS 39)) (A40 : At K mg "_law_goes" (topS 40)) (A41 : At K mg "_law_pushed" (topS 41)) (A42 : At K mg "_law_on" (topS 42)) (A43 : At K mg "_law_adds_right" (topS 43)) (A44 : At K mg "_law_case_right" (topS 44)) (A45 : At K mg "_law_right" (topS 45)) (M0 : AtM K C "__init__" "Routes.__init__" (mS 0)) (M6 : AtM K C "on_from" "Routes.on_from" (mS 6)) (M7 : AtM K C "through" "Routes.through" (mS 7)) (M8 : AtM K C "share" "Routes.share" (mS 8)) (M10 : AtM K C "row_behind" "Routes.row_behind" (mS 10)) (M11 : AtM K C "beginning" "Routes.beginning" (mS 11)) (M13 : AtM K C "__contains__" "Routes.__contains__" (mS 13)) (Q3 : AtP K C "many" "Routes.many" (mS 3)) (Q4 : AtP K C "lengths" "Routes.lengths" (mS 4)) (Q5 : AtP K C "average" "Routes.average" (mS 5)) :
    ∃ fd : FuncData, (∀ (s : Shared) (v : Value), BindsTo s fd ⟨[v], []⟩ [("_law_script", v)]) ∧ ∀ base : Heap, K.In base → base.Ns mainGlobals mg → FnOk l.prog w K mg base CX0 26 fa fd ["_law_script"] (spLaw K) := by
  have e := hfa.symm.trans (PySem.W.mg_of X G aL)
  cases e
  have no : ∀ {n : Str}, PySem.W.nsIn K mainGlobals n = some none → mg n = none := fun z => PySem.W.mg_none_of X G z
  refine ⟨_, fun s v => .of_eq rfl, fun base _ _ => law_all ⟨no zisinstance, no zlist, no ztuple, no zint, no zbool, no zabs, no zany, no zenumerate, no zall, no zlen, no zsorted, no zset, no zsum, no zrange, no zzip⟩ ⟨⟨pg, hd, po, sa⟩, nown_start, nown_end, nown_first, nown_goal, nown_rows, nown_lengths, nown_to⟩ mk kc (PySem.W.mg_of X G aC) (fun_mk (st := topS 46) lL cL kL) A6 A7 A8 A10 A11 A12 A14 A15 A16 A17 A19 A20 A21 A22 A24 A25 A26 A29 A30 A31 A32 A33 A34 A35 A36 A37 A38 A39 A40 A41 A42 A43 A44 A45 M0 M6 M7 M8 M10 M11 M13 Q3 Q4 Q5⟩
theorem walk {l : PySem.W.OpenLaw} {q : Program} {loose : List Str} {XP : (Str → Option Value) → Heap → Prop} {YP : World → Heap → Prop} {d : DefRec} {K : Params → PySem.W.Frag} (hn : l.most = some 63) (hdf : d.params.defaults = []) (q1 : Plain 1) (q4 : Plain 4) (q5 : Plain 5) (q6 : Plain 6)
    (hY : ∀ (w : World) (h : Heap), YP w h → (K w.params).In h)
    (F : ∀ (w : World) (mg : Str → Option Value) (fa : Addr) (h : Heap), (K w.params).In h → h.Ns mainGlobals mg → mg d.name = some (.ref fa) →
      ∃ fd : FuncData, (∀ (s : Shared) (u : Value), BindsTo s fd ⟨[u], []⟩ [("_law_script", u)]) ∧ ∀ base : Heap, (K w.params).In base → base.Ns mainGlobals mg → FnOk l.prog w (K w.params) mg base CX0 26 fa fd ["_law_script"] (spLaw (K w.params))) :
    PySem.W.WalkO q loose XP YP l.row.toRowW d [] (fun f vs => PySem.call f vs) :=
  L2.walk_of (n := 63) (k := 26) (x := "_law_script") (CX := fun _ => CX0) (sp := fun w => spLaw (K w.params)) hn (by decide) hdf ⟨rfl, by decide, by decide⟩ hY F (fun _ _ a ns hl _ hS => ⟨a, ns, rfl, hS, hl, q1, q4, q5, q6, fun _ => rfl⟩) fun _ _ _ _ _ z => z
end Rg

open PySem PySem.W PyProof.Rows
set_option maxHeartbeats 0 in
theorem PySem.Challenge.cw_regroups_k33_whole_beginnings_and_stops_holds : PySem.Challenge.rw_regroups_k33_whole_beginnings_and_stops.Holds := by
  w_on; o_law; k_head; (case hw => w_witness2)
  k_fill
  refine Rg.walk (l := PySem.Challenge.rw_regroups_k33_whole_beginnings_and_stops) rfl rfl Rg.plain1 Rg.plain4 Rg.plain5 Rg.plain6 (fun w h Y => PySem.W.kIn_of Y) ?F
  case F =>
    intro w mg fa h KX G hmg
    refine' Rg.finish KX G hmg ?aC ?pg ?hd ?po ?sa ?mk ?kc ?nown_start ?nown_end ?nown_first ?nown_goal ?nown_rows ?nown_lengths ?nown_to ?zisinstance ?zlist ?ztuple ?zint ?zbool ?zabs ?zany ?zenumerate ?zall ?zlen ?zsorted ?zset ?zsum ?zrange ?zzip ?aL ?lL ?cL ?kL (Rg.at_mk KX G ?a6 ?l6 ?c6 ?k6) (Rg.at_mk KX G ?a7 ?l7 ?c7 ?k7) (Rg.at_mk KX G ?a8 ?l8 ?c8 ?k8) (Rg.at_mk KX G ?a10 ?l10 ?c10 ?k10) (Rg.at_mk KX G ?a11 ?l11 ?c11 ?k11) (Rg.at_mk KX G ?a12 ?l12 ?c12 ?k12) (Rg.at_mk KX G ?a14 ?l14 ?c14 ?k14) (Rg.at_mk KX G ?a15 ?l15 ?c15 ?k15) (Rg.at_mk KX G ?a16 ?l16 ?c16 ?k16) (Rg.at_mk KX G ?a17 ?l17 ?c17 ?k17) (Rg.at_mk KX G ?a19 ?l19 ?c19 ?k19) (Rg.at_mk KX G ?a20 ?l20 ?c20 ?k20) (Rg.at_mk KX G ?a21 ?l21 ?c21 ?k21) (Rg.at_mk KX G ?a22 ?l22 ?c22 ?k22) (Rg.at_mk KX G ?a24 ?l24 ?c24 ?k24) (Rg.at_mk KX G ?a25 ?l25 ?c25 ?k25) (Rg.at_mk KX G ?a26 ?l26 ?c26 ?k26) (Rg.at_mk KX G ?a29 ?l29 ?c29 ?k29) (Rg.at_mk KX G ?a30 ?l30 ?c30 ?k30) (Rg.at_mk KX G ?a31 ?l31 ?c31 ?k31) (Rg.at_mk KX G ?a32 ?l32 ?c32 ?k32) (Rg.at_mk KX G ?a33 ?l33 ?c33 ?k33) (Rg.at_mk KX G ?a34 ?l34 ?c34 ?k34) (Rg.at_mk KX G ?a35 ?l35 ?c35 ?k35) (Rg.at_mk KX G ?a36 ?l36 ?c36 ?k36) (Rg.at_mk KX G ?a37 ?l37 ?c37 ?k37) (Rg.at_mk KX G ?a38 ?l38 ?c38 ?k38) (Rg.at_mk KX G ?a39 ?l39 ?c39 ?k39) (Rg.at_mk KX G ?a40 ?l40 ?c40 ?k40) (Rg.at_mk KX G ?a41 ?l41 ?c41 ?k41) (Rg.at_mk KX G ?a42 ?l42 ?c42 ?k42) (Rg.at_mk KX G ?a43 ?l43 ?c43 ?k43) (Rg.at_mk KX G ?a44 ?l44 ?c44 ?k44) (Rg.at_mk KX G ?a45 ?l45 ?c45 ?k45) (Rg.atm_mk ?ma0 ?mi0 ?ml0 ?mc0 ?mk0) (Rg.atm_mk ?ma6 ?mi6 ?ml6 ?mc6 ?mk6) (Rg.atm_mk ?ma7 ?mi7 ?ml7 ?mc7 ?mk7) (Rg.atm_mk ?ma8 ?mi8 ?ml8 ?mc8 ?mk8) (Rg.atm_mk ?ma10 ?mi10 ?ml10 ?mc10 ?mk10) (Rg.atm_mk ?ma11 ?mi11 ?ml11 ?mc11 ?mk11) (Rg.atm_mk ?ma13 ?mi13 ?ml13 ?mc13 ?mk13) (Rg.atp_mk ?pa3 ?ps3 ?pt3 ?pr3 ?pl3 ?pc3 ?pk3) (Rg.atp_mk ?pa4 ?ps4 ?pt4 ?pr4 ?pl4 ?pc4 ?pk4) (Rg.atp_mk ?pa5 ?ps5 ?pt5 ?pr5 ?pl5 ?pc5 ?pk5)
    (case aC => k_is)
    (case pg => k_is)
    (case hd => k_is)
    (case po => k_is)
    (case sa => k_is)
    (case mk => k_is)
    (case kc => k_is)
    (case nown_start => k_is)
    (case nown_end => k_is)
    (case nown_first => k_is)
    (case nown_goal => k_is)
    (case nown_rows => k_is)
    (case nown_lengths => k_is)
    (case nown_to => k_is)
    (case zisinstance => k_is)
    (case zlist => k_is)
    (case ztuple => k_is)
    (case zint => k_is)
    (case zbool => k_is)
    (case zabs => k_is)
    (case zany => k_is)
    (case zenumerate => k_is)
    (case zall => k_is)
    (case zlen => k_is)
    (case zsorted => k_is)
    (case zset => k_is)
    (case zsum => k_is)
    (case zrange => k_is)
    (case zzip => k_is)
    (case aL => k_is)
    (case lL => k_is)
    (case cL => k_is)
    (case kL => k_is)
    (case a6 => k_is)
    (case l6 => k_is)
    (case c6 => k_is)
    (case k6 => k_is)
    (case a7 => k_is)
    (case l7 => k_is)
    (case c7 => k_is)
    (case k7 => k_is)
    (case a8 => k_is)
    (case l8 => k_is)
    (case c8 => k_is)
    (case k8 => k_is)
    (case a10 => k_is)
    (case l10 => k_is)
    (case c10 => k_is)
    (case k10 => k_is)
    (case a11 => k_is)
    (case l11 => k_is)
    (case c11 => k_is)
    (case k11 => k_is)
    (case a12 => k_is)
    (case l12 => k_is)
    (case c12 => k_is)
    (case k12 => k_is)
    (case a14 => k_is)
    (case l14 => k_is)
    (case c14 => k_is)
    (case k14 => k_is)
    (case a15 => k_is)
    (case l15 => k_is)
    (case c15 => k_is)
    (case k15 => k_is)
    (case a16 => k_is)
    (case l16 => k_is)
    (case c16 => k_is)
    (case k16 => k_is)
    (case a17 => k_is)
    (case l17 => k_is)
    (case c17 => k_is)
    (case k17 => k_is)
    (case a19 => k_is)
    (case l19 => k_is)
    (case c19 => k_is)
    (case k19 => k_is)
    (case a20 => k_is)
    (case l20 => k_is)
    (case c20 => k_is)
    (case k20 => k_is)
    (case a21 => k_is)
    (case l21 => k_is)
    (case c21 => k_is)
    (case k21 => k_is)
    (case a22 => k_is)
    (case l22 => k_is)
    (case c22 => k_is)
    (case k22 => k_is)
    (case a24 => k_is)
    (case l24 => k_is)
    (case c24 => k_is)
    (case k24 => k_is)
    (case a25 => k_is)
    (case l25 => k_is)
    (case c25 => k_is)
    (case k25 => k_is)
    (case a26 => k_is)
    (case l26 => k_is)
    (case c26 => k_is)
    (case k26 => k_is)
    (case a29 => k_is)
    (case l29 => k_is)
    (case c29 => k_is)
    (case k29 => k_is)
    (case a30 => k_is)
    (case l30 => k_is)
    (case c30 => k_is)
    (case k30 => k_is)
    (case a31 => k_is)
    (case l31 => k_is)
    (case c31 => k_is)
    (case k31 => k_is)
    (case a32 => k_is)
    (case l32 => k_is)
    (case c32 => k_is)
    (case k32 => k_is)
    (case a33 => k_is)
    (case l33 => k_is)
    (case c33 => k_is)
    (case k33 => k_is)
    (case a34 => k_is)
    (case l34 => k_is)
    (case c34 => k_is)
    (case k34 => k_is)
    (case a35 => k_is)
    (case l35 => k_is)
    (case c35 => k_is)
    (case k35 => k_is)
    (case a36 => k_is)
    (case l36 => k_is)
    (case c36 => k_is)
    (case k36 => k_is)
    (case a37 => k_is)
    (case l37 => k_is)
    (case c37 => k_is)
    (case k37 => k_is)
    (case a38 => k_is)
    (case l38 => k_is)
    (case c38 => k_is)
    (case k38 => k_is)
    (case a39 => k_is)
    (case l39 => k_is)
    (case c39 => k_is)
    (case k39 => k_is)
    (case a40 => k_is)
    (case l40 => k_is)
    (case c40 => k_is)
    (case k40 => k_is)
    (case a41 => k_is)
    (case l41 => k_is)
    (case c41 => k_is)
    (case k41 => k_is)
    (case a42 => k_is)
    (case l42 => k_is)
    (case c42 => k_is)
    (case k42 => k_is)
    (case a43 => k_is)
    (case l43 => k_is)
    (case c43 => k_is)
    (case k43 => k_is)
    (case a44 => k_is)
    (case l44 => k_is)
    (case c44 => k_is)
    (case k44 => k_is)
    (case a45 => k_is)
    (case l45 => k_is)
    (case c45 => k_is)
    (case k45 => k_is)
    (case ma0 => k_is)
    (case mi0 => k_is)
    (case ml0 => k_is)
    (case mc0 => k_is)
    (case mk0 => k_is)
    (case ma6 => k_is)
    (case mi6 => k_is)
    (case ml6 => k_is)
    (case mc6 => k_is)
    (case mk6 => k_is)
    (case ma7 => k_is)
    (case mi7 => k_is)
    (case ml7 => k_is)
    (case mc7 => k_is)
    (case mk7 => k_is)
    (case ma8 => k_is)
    (case mi8 => k_is)
    (case ml8 => k_is)
    (case mc8 => k_is)
    (case mk8 => k_is)
    (case ma10 => k_is)
    (case mi10 => k_is)
    (case ml10 => k_is)
    (case mc10 => k_is)
    (case mk10 => k_is)
    (case ma11 => k_is)
    (case mi11 => k_is)
    (case ml11 => k_is)
    (case mc11 => k_is)
    (case mk11 => k_is)
    (case ma13 => k_is)
    (case mi13 => k_is)
    (case ml13 => k_is)
    (case mc13 => k_is)
    (case mk13 => k_is)
    (case pa3 => k_is)
    (case ps3 => k_is)
    (case pt3 => k_is)
    (case pr3 => k_is)
    (case pl3 => k_is)
    (case pc3 => k_is)
    (case pk3 => k_is)
    (case pa4 => k_is)
    (case ps4 => k_is)
    (case pt4 => k_is)
    (case pr4 => k_is)
    (case pl4 => k_is)
    (case pc4 => k_is)
    (case pk4 => k_is)
    (case pa5 => k_is)
    (case ps5 => k_is)
    (case pt5 => k_is)
    (case pr5 => k_is)
    (case pl5 => k_is)
    (case pc5 => k_is)
    (case pk5 => k_is)
