import PyProof.Rows.All
import Wide.All
import OpenK.AllK
import Wide.FinOn
import PySem.Challenge.RW_anyrain_k15_texts_of_lands
import KE.KRevSl
import HandS.List
import HandS.TupAny
import HandS.Style
import HandS.ForMost
import HandS.Exc
import HandS.ExcCtx
import HandS.WordsExc
import HandS.Wide
import HandS.TupMul
import HandS.Walk
import HandS.Zip
import HandS.IsInst
import HandS.Lambda
import HandS.Deep
import HandS.Conv
import HandS.StrMore
import HandS.SortInts
import KE.GoesMore
import HandS.Iter
import HandS.SetFor
import HandS.Strs
import HandS.FStr
import HandS.Defaults
import HandS.HeadHook4
import HandS.HeadWalk
import HandS.Hot
import HandS.HotCalls
import HandS.Comp
import HandS.ExcIs
import HandS.ExcBuiltin
import KE.KStateDown
import HandS.Head0
import HandS.Head1
import HandS.Head2
import PyProof.StrLawsTight
set_option linter.all false
set_option maxRecDepth 100000
set_option maxHeartbeats 1000000
/-! A tuple from its end: t[::-1]. -/
namespace PD
open PySem PySem.Spec PyProof.Rows L2
theorem fm_same {α β : Type} {f g : α → Option β} : ∀ {l : List α}, (∀ k ∈ l, f k = g k) → l.filterMap f = l.filterMap g
  | [], _ => rfl
  | a :: l, h => by
    rw [List.filterMap_cons, List.filterMap_cons, h a List.mem_cons_self, fm_same fun k hk => h k (List.mem_cons_of_mem _ hk)]
theorem rev_all (ys : Array Value) : ((List.range ys.size).filterMap fun (k : Nat) => ys[(((ys.size : Int) - 1) + (k : Int) * (-1)).toNat]?).toArray = ys.toList.reverse.toArray := by
  congr 1
  have e : ∀ k ∈ List.range ys.size, ys[(((ys.size : Int) - 1) + (k : Int) * (-1)).toNat]? = ys.toList.reverse.toArray[k]? := fun k hk => by
    have hk := List.mem_range.mp hk
    have e2 : ys.toList.reverse.toArray[k]? = ys.toList.reverse[k]? := by simp
    rw [e2, List.getElem?_reverse (by simpa using hk), ← Array.getElem?_toList]
    congr 1
    rw [Array.length_toList]
    omega
  rw [fm_same e]
  have := PySem.W.krv_all ys.toList.reverse.toArray
  rw [List.size_toArray, List.length_reverse, Array.length_toList] at this
  exact this
section
open HT
variable {prog : Program} {w : World} {A : Around} {E : Value → Shared → Prop} {s : Shared}
theorem part_ {v : Value} {o : Option Int} {Q : Option Int → Shared → Prop} (p : IsPart v o) (h : Q o s) : wpAny (model prog w) A (Builtin.Slice.slicePartIndex v) Q E s := slicePart_ p h
theorem applied_rev {a : Addr} {vl vu vs : Value} {n : Nat} {Q : Int × Int × Nat → Shared → Prop} (hs : s.heap.IsSliceOf a vl vu vs) (pl : IsPart vl none) (pu : IsPart vu none) (ps : IsPart vs (some (-1))) (h : Q ((n : Int) - 1, -1, n) s) :
    wpAny (model prog w) A (Builtin.Slice.sliceApplied (.ref a) (pure (n : Int))) Q E s := by
  obtain ⟨o, ho, hc, hd⟩ := id hs
  unfold Builtin.Slice.sliceApplied Builtin.Slice.sliceFields
  refine wpAny_bind (wpAny_bind (wpAny_field ho hd (x := vl) rfl (wpAny_bind (wpAny_field ho hd (x := vu) rfl (wpAny_bind (wpAny_field ho hd (x := vs) rfl (wpAny_pure ?_)))))))
  refine wpAny_bind (part_ ps ?_)
  show wpAny _ _ (if ((-1 : Int) == 0) = true then _ else _) _ _ s
  rw [if_neg (by decide)]
  refine wpAny_bind (part_ pl (wpAny_bind (part_ pu (wpAny_bind (wpAny_pure ?_)))))
  have e1 : Builtin.Slice.sliceAdjust none none (-1) (n : Int) = ((n : Int) - 1, -1) := by
    unfold Builtin.Slice.sliceAdjust
    simp
  have e2 : Builtin.Slice.slicePlaces ((n : Int) - 1) (-1) (-1) = n := by
    unfold Builtin.Slice.slicePlaces
    have h1 : ¬ ((-1 : Int) > 0) := by decide
    simp only [h1, if_false]
    by_cases hn : (n : Int) - 1 > -1
    · rw [if_pos hn, show (- -1 : Int) = 1 by decide, Int.ediv_one]; omega
    · rw [if_neg hn]; omega
  show wpAny _ _ (match Builtin.Slice.sliceAdjust none none (-1) (n : Int) with | (lo, hi) => pure (lo, (-1 : Int), Builtin.Slice.slicePlaces lo hi (-1))) _ _ s
  rw [e1]
  show wpAny _ _ (pure ((n : Int) - 1, (-1 : Int), Builtin.Slice.slicePlaces ((n : Int) - 1) (-1) (-1))) _ _ s
  rw [e2]
  exact wpAny_pure h
theorem item_rev {t a : Addr} {ys : Array Value} {vl vu vs : Value} {Q : Value → Shared → Prop} (ht : IsTup s.heap t ys) (hs : s.heap.IsSliceOf a vl vu vs) (pl : IsPart vl none) (pu : IsPart vu none) (ps : IsPart vs (some (-1))) (hz : ys.size ≤ sizeLine)
    (h : Q (.ref s.heap.objs.size) { s with heap := s.heap.push { cls := .type "tuple", data := .seq ys.toList.reverse.toArray } }) : wpAny (model prog w) A (getItem (.ref t) (.ref a)) Q E s := by
  have hz' : sizeOk (.seq ys.toList.reverse.toArray) := by
    show ys.toList.reverse.toArray.size ≤ sizeLine
    rw [List.size_toArray, List.length_reverse, Array.length_toList]
    exact hz
  have hT : s.TypeIs (.ref a) "slice" := by
    obtain ⟨o, ho, hc, hd⟩ := id hs
    exact ⟨o, ho, hc⟩
  unfold getItem
  try with_reducible refine wpAny_holding ?_
  first | refine wpAny_bind (wpAny_pure ?_) | skip
  refine wpAny_bind (wpAny_sequenceKey ht.typeIs (by decide) (wpAny_bind (wpAny_callSpecial?_slot (name := Str.ofString "__getitem__") ht.typeIs PyProof.Rows.slot_tuple_getitem (wpAny_call_entry PyProof.Rows.slot_tuple_getitem ht.typeIs entry_tuple_getitem ?_ (args_tuple_getitem _ _)))))
  show wpAny _ _ (Builtin.Tuple.tupleItemsOf (.ref t) >>= _) _ _ s
  refine wpAny_bind (tupleItemsOf_ ht (wpAny_bind (wpAny_typeOf hT ?_)))
  rw [if_pos (by decide)]
  refine wpAny_bind (applied_rev hs pl pu ps ?_)
  have hno : ¬ ((((ys.size : Int) - 1) == 0 && (-1 : Int) == 1 && ys.size == ys.size) = true) := by simp
  show wpAny _ _ (if (((ys.size : Int) - 1) == 0 && (-1 : Int) == 1 && ys.size == ys.size) = true then _ else _) _ _ s
  rw [if_neg hno, rev_all]
  first
    | exact wpAny_bind (m := Builtin.Tuple.tupleExact _) (wpAny_newObj_type (wpAny_pure ⟨_, rfl, wpAny_pure h⟩) hz')
    | exact wpAny_bind (m := Builtin.Tuple.tupleExact _) (wpAny_newObj_type (wpAny_bind (wpAny_pure (wpAny_pure ⟨_, rfl, wpAny_pure h⟩))) hz')
    | exact wpAny_bind (wpAny_bind (m := Builtin.Tuple.tupleExact _) (wpAny_newObj_type (wpAny_pure (wpAny_pure ⟨_, rfl, wpAny_pure h⟩)) hz'))
    | exact wpAny_bind (wpAny_bind (m := Builtin.Tuple.tupleExact _) (wpAny_newObj_type (wpAny_pure ⟨_, rfl, wpAny_pure h⟩) hz'))
end
/-- a list or a tuple from its end -/
def tRvA (K : PySem.W.Frag) (te : TE) : TE := fun σ H Q => te σ H fun x H1 => ∃ a xs, x = .ref a ∧ ((SqL K H1 a xs ∧ ∀ p, H1 p = none → Q (.ref p) (upd H1 p (.lst xs.reverse))) ∨ (SqT K H1 a xs ∧ ∀ p, H1 p = none → Q (.ref p) (upd H1 p (.tup xs.reverse))))
theorem pe_rvA {X : Cx} {te : TE} {e : Expr} {k : Nat} {p1 p2 p3 pos : Pos} (he : PE X e te) : PE X (.Subscript e (.Slice none none (some (.UnaryOp .USub (.Constant (.int 1) k p1) p2)) p3) pos) (tRvA X.K te) := by
  refine ⟨fun pins s σ H Q I h => Subscript_ (thn (he.run pins s σ H _ I h) fun v s1 ⟨x, H1, I1, r1, q1⟩ => ?_)⟩
  obtain ⟨a, xs, ex, q1⟩ := q1
  subst ex
  cases r1
  have hst : PO X (some (.UnaryOp .USub (.Constant (.int 1) k p1) p2)) (tPart (tUn (rU fun i => .int (-i)) (tC (.int 1)))) := po_some (pe_un un_neg pe_int)
  refine wpAny_Slice (thn (po_none.run pins s1 σ H1 (fun o G => o = none ∧ G = H1) I1 ⟨rfl, rfl⟩) fun vl s2 ⟨l, H2, I2, pl, el, e2⟩ => ?_)
  subst el e2
  refine thn (po_none.run pins s2 σ H2 (fun o G => o = none ∧ G = H2) I2 ⟨rfl, rfl⟩) fun vu s3 ⟨u, H3, I3, pu, eu, e3⟩ => ?_
  subst eu e3
  refine thn (hst.run pins s3 σ H3 (fun o G => o = some (-1) ∧ G = H3) I3 ⟨1, rfl, -1, rfl, rfl, rfl⟩) fun vs s4 ⟨o, H4, I4, ps, eo, e4⟩ => ?_
  subst eo e4
  have I5 : Inv X pins σ H4 { s4 with heap := s4.heap.push { cls := .type "slice", data := .fields #[vl, vu, vs] } } := I4.kept (t' := s4.toks) fun b ob q => Heap.get?_push_of_some _ q
  have fr := I5.hok.fresh (Nat.le_refl _)
  rcases q1 with ⟨hx, q⟩ | ⟨hx, q⟩
  · obtain ⟨its, r, ht, hz⟩ := I5.list hx
    have hl := r.length
    show wpAny (model X.prog X.w) X.A (subscriptTail e (.Slice none none (some (.UnaryOp .USub (.Constant (.int 1) k p1) p2)) p3) (.ref a) (.ref s4.heap.objs.size)) _ X.xe _
    refine tail_any (ops := [.ref a, .ref s4.heap.objs.size]) ht.isList.typeIs (PySem.slot_list_getitem.lookup) ?_ (by with_unfolding_all rfl)
    refine wpAny_getItem_list_slice ht.isList (Heap.IsSliceOf.new _ vl vu vs) pl pu ps (by decide) ?_ (by rw [List.size_toArray]; omega)
    rw [PySem.W.krv_pick]
    exact ⟨.ref _, _, I5.laid (t' := s4.toks) (o := .lst xs.reverse) (fun b ob q => Heap.get?_push_of_some _ q) (Nat.le_refl _) ⟨by rw [List.length_reverse]; exact hz, _, 0, r.reverse, Heap.get?_push_size _ rfl⟩, rfl, q _ fr⟩
  · obtain ⟨its, r, ht, hz⟩ := I5.tuple hx
    have hl := r.length
    show wpAny (model X.prog X.w) X.A (subscriptTail e (.Slice none none (some (.UnaryOp .USub (.Constant (.int 1) k p1) p2)) p3) (.ref a) (.ref s4.heap.objs.size)) _ X.xe _
    refine tail_any (ops := [.ref a, .ref s4.heap.objs.size]) ht.typeIs PyProof.Rows.slot_tuple_getitem.lookup ?_ (by with_unfolding_all rfl)
    refine item_rev ht (Heap.IsSliceOf.new _ vl vu vs) pl pu ps (by rw [List.size_toArray]; omega) ?_
    exact ⟨.ref _, _, I5.laid (t' := s4.toks) (o := .tup xs.reverse) (fun b ob q => Heap.get?_push_of_some _ q) (Nat.le_refl _) ⟨by rw [List.length_reverse]; exact hz, _, r.reverse, ⟨_, Heap.get?_push_size _ rfl, rfl, _, rfl⟩⟩, rfl, q _ fr⟩
end PD
set_option linter.all false
set_option maxRecDepth 100000
/-! A small evaluator over plain data: what the bodies of the text's defs compute, with no heap in sight. -/
namespace PD
open PySem
abbrev D := PyData
/-- an outcome: nothing is said, a value, an error of a class by its number -/
inductive R (α : Type) where
  | stuck
  | ok (a : α)
  | err (c : Nat)
/-- the numbers of the bag that is drawn from -/
abbrev Bg := List Int
abbrev M (α : Type) := R (α × Bg)
@[inline] def R.bind {α β : Type} (x : R α) (f : α → R β) : R β := match x with
  | .stuck => .stuck
  | .ok a => f a
  | .err c => .err c
/-- an error is not let out -/
def R.quiet {α : Type} : R α → R α
  | .err _ => .stuck
  | x => x
@[inline] def M.bind {α β : Type} (x : M α) (f : α → Bg → M β) : M β := match x with
  | .stuck => .stuck
  | .ok (a, b) => f a b
  | .err c => .err c
def ofO {α : Type} (b : Bg) : Option α → M α
  | some a => .ok (a, b)
  | none => .stuck
inductive BinO where | add | sub | mul | fdiv | mod | pow
inductive CmpO where | eq | ne | lt | le | gt | ge | isin | notin | is | isnot
inductive BltO where | len | abs | int | str | bool | tuple | list | sorted | sset | sum | any | all | neg | rev | fmt | revt | lrng
inductive Blt2 where | max | min
inductive Ty where | int | bool | str | tuple | list
inductive Tgt where
  | nm (i : Nat)
  | tp (ts : List Tgt)
def isSc : D → Bool
  | .none | .bool _ | .int _ | .str _ => true
  | _ => false
/-- a list in the order of its items, each item once -/
def insI (x : Int) : List Int → List Int
  | [] => [x]
  | y :: r => if x ≤ y then x :: y :: r else y :: insI x r
def sortI : List Int → List Int
  | [] => []
  | x :: r => insI x (sortI r)
def ints? : List D → Option (List Int)
  | [] => some []
  | .int i :: r => (ints? r).map (i :: ·)
  | _ :: _ => none
def bools? : List D → Option (List Bool)
  | [] => some []
  | .bool i :: r => (bools? r).map (i :: ·)
  | _ :: _ => none
def strs? : List D → Option (List Str)
  | [] => some []
  | .str i :: r => (strs? r).map (i :: ·)
  | _ :: _ => none
def rows? : List D → Option (List (List Int))
  | [] => some []
  | .tuple xs :: r => (ints? xs).bind fun x => (rows? r).map (x :: ·)
  | _ :: _ => none
def lexLe : List Int → List Int → Bool
  | [], _ => true
  | _ :: _, [] => false
  | x :: xs, y :: ys => if x < y then true else if y < x then false else lexLe xs ys
def insR (x : List Int) : List (List Int) → List (List Int)
  | [] => [x]
  | y :: r => if lexLe x y then x :: y :: r else y :: insR x r
def sortR : List (List Int) → List (List Int)
  | [] => []
  | x :: r => insR x (sortR r)
/-- each once, the first stays -/
def onceI : List Int → List Int
  | [] => []
  | x :: r => if x ∈ r then onceI r else x :: onceI r
def onceR : List (List Int) → List (List Int)
  | [] => []
  | x :: r => if x ∈ r then onceR r else x :: onceR r
def tupI (xs : List Int) : D := .tuple (xs.map .int)
def ixD (n : Nat) (i : Int) : Option Nat := if 0 ≤ i then (if i < n then some i.toNat else none) else if -(n : Int) ≤ i then some (i + n).toNat else none
def cutAt (n d : Nat) : Option Int → Nat
  | none => d
  | some v => if v < 0 then (v + (n : Int)).toNat else min v.toNat n
def cutL {α : Type} (xs : List α) (lo hi : Option Int) : List α := (xs.drop (cutAt xs.length 0 lo)).take (cutAt xs.length xs.length hi - cutAt xs.length 0 lo)
def smallLog (i j : Int) : Bool := Nat.blt (i.natAbs.log2 + j.natAbs.log2) 1000000
def binD : BinO → D → D → Option D
  | .add, .int i, .int j => some (.int (i + j))
  | .add, .str x, .str y => if x.length + y.length ≤ sizeLine then some (.str (x ++ y)) else none
  | .add, .list x, .list y => if x.length + y.length ≤ sizeLine then some (.list (x ++ y)) else none
  | .add, .tuple x, .tuple y => if x.length + y.length ≤ sizeLine then some (.tuple (x ++ y)) else none
  | .sub, .int i, .int j => some (.int (i - j))
  | .mul, .int i, .int j => if smallLog i j then some (.int (i * j)) else none
  | .mul, .tuple x, .int k => if x ≠ [] ∧ 1 ≤ k ∧ k ≤ 1000 ∧ x.length ≤ 1000 then some (.tuple (List.replicate k.toNat x).flatten) else none
  | .fdiv, .int i, .int j => if 0 < j ∧ j.natAbs.log2 < 9000 then some (.int (i / j)) else none
  | .mod, .int i, .int j => if 0 < j then some (.int (i % j)) else none
  | .pow, .int i, .int j => if 0 ≤ j ∧ j ≤ 1000000 ∧ i.natAbs < 2 ^ 64 then some (.int (i ^ j.toNat)) else none
  | _, _, _ => none
def inD (a : D) : D → Option Bool
  | .list bs => if SeqAt.shaped a && SeqAt.shaped (.list bs) then some (bs.any fun y => PyData.eqv y a) else none
  | .tuple bs => if SeqAt.shaped a && SeqAt.shaped (.tuple bs) then some (bs.any fun y => PyData.eqv y a) else none
  | .str y => (match a with
    | .str x => some (!(Builtin.Str.occurrences y x 0 y.length 1).isEmpty)
    | _ => none)
  | _ => none
def isNn : D → Bool
  | .none => true
  | _ => false
def isD : D → D → Option Bool
  | a, .none => some (isNn a)
  | .bool a, .bool b => some (decide (a = b))
  | _, _ => none
def eqD (a b : D) : Option Bool := if SeqAt.shaped a && SeqAt.shaped b then some (PyData.eqv a b) else none
def cmpD : CmpO → D → D → Option Bool
  | .eq, a, b => eqD a b
  | .ne, a, b => (eqD a b).map (!·)
  | .lt, .int i, .int j => some (decide (i < j))
  | .le, .int i, .int j => some (decide (i ≤ j))
  | .gt, .int i, .int j => some (decide (j < i))
  | .ge, .int i, .int j => some (decide (j ≤ i))
  | .isin, a, b => inD a b
  | .notin, a, b => (inD a b).map (!·)
  | .is, a, b => isD a b
  | .isnot, a, b => (isD a b).map (!·)
  | _, _, _ => none
def sortD (ds : List D) : Option D := (ints? ds).map fun ns => .list ((sortI ns).map .int)
def ssetD (ds : List D) : Option D := (ints? ds).bind fun ns => if ns.length < 60 then some (.list ((sortI (onceI ns)).map .int)) else none
def rngOk (i j : Int) : Bool := decide (-(2 ^ 62) ≤ i) && decide (i < 2 ^ 62) && decide (-(2 ^ 62) ≤ j) && decide (j < 2 ^ 62) && decide (j - i < 1000000)
def rangeD (lo : Int) : Nat → List D
  | 0 => []
  | n + 1 => .int lo :: rangeD (lo + 1) n
def bltD : BltO → D → Option D
  | .len, .str x => if x.length ≤ sizeLine then some (.int x.length) else none
  | .len, .list x => some (.int x.length)
  | .len, .tuple x => some (.int x.length)
  | .abs, .int i => some (.int (if i < 0 then -i else i))
  | .neg, .int i => some (.int (-i))
  | .int, .int i => some (.int i)
  | .int, .bool b => some (.int (if b then 1 else 0))
  | .int, .str a => (match PySem.intText? a with
    | some n => if a.length ≤ 640 then some (.int n) else none
    | none => none)
  | .str, .int i => if i.natAbs.log2 < 1920 then some (.str (toString i)) else none
  | .tuple, .list x => some (.tuple x)
  | .tuple, .tuple x => some (.tuple x)
  | .list, .list x => some (.list x)
  | .list, .tuple x => some (.list x)
  | .sorted, .list x => sortD x
  | .sset, .list x => ssetD x
  | .sum, .list x => (ints? x).map fun ns => .int ns.sum
  | .any, .list x => (bools? x).map fun bs => .bool (bs.any id)
  | .all, .list x => (bools? x).map fun bs => .bool (bs.all id)
  | .rev, .list x => some (.list x.reverse)
  | .rev, .tuple x => some (.tuple x.reverse)
  | .fmt, .int i => if i.natAbs.log2 < 1920 then some (.str (toString i)) else none
  | .fmt, .str y => if y.length ≤ sizeLine then some (.str y) else none
  | .revt, .list x => some (.list x.tail.reverse)
  | .lrng, .int j => if rngOk 0 j then some (.list (rangeD 0 j.toNat)) else none
  | _, _ => none
def blt2D : Blt2 → D → D → Option D
  | .max, .int i, .int j => some (.int (if j > i then j else i))
  | .min, .int i, .int j => some (.int (if j < i then j else i))
  | _, _, _ => none
def isiD : Ty → D → Option Bool
  | .int, .int _ | .int, .bool _ | .bool, .bool _ | .str, .str _ | .tuple, .tuple _ | .list, .list _ => some true
  | _, .dict _ => none
  | _, _ => some false
def itemD (a i : D) : Option D := match a, i with
  | .list x, .int k => (ixD x.length k).bind fun j => x[j]?
  | .tuple x, .int k => (ixD x.length k).bind fun j => x[j]?
  | _, _ => none
def sliceD (a : D) (lo hi : Option Int) : Option D := match a with
  | .list x => some (.list (cutL x lo hi))
  | .tuple x => some (.tuple (cutL x lo hi))
  | .str x => if x.length ≤ sizeLine then some (.str ⟨(cutL x.cps.toList lo hi).toArray⟩) else none
  | _ => none
def joinD (a : Str) (ds : List D) : Option D := (strs? ds).bind fun ys => if (ys.map (·.length)).sum + ys.length * a.length ≤ 16777216 then some (.str (Txt.join a ys)) else none
mutual
inductive ME where
  | var (i : Nat)
  | con (d : D)
  | gcon (g : Nat)
  | tup (es : MEs)
  | lst (es : MEs)
  | bin (o : BinO) (a b : ME)
  | nt (a : ME)
  | cmp (o : CmpO) (a b : ME)
  | chain (o o' : CmpO) (a b c : ME)
  | andv (a b : ME)
  | orv (a b : ME)
  | ite (c a b : ME)
  | ix (a b : ME)
  | sl (a : ME) (lo hi : MO)
  | call (f : Nat) (es : MEs)
  | callb (i f : Nat) (es : MEs)
  | blt (o : BltO) (a : ME)
  | blt2 (o : Blt2) (a b : ME)
  | isi (a : ME) (t : Ty)
  | bagne (i : Nat)
  | bagpop (i : Nat)
  | comp (elt : ME) (t : Tgt) (it : MI) (c : MO) (vs : List Nat)
  | join (sep a : ME)
  | split (a sep : ME)
  | lerr (e : ME)
  | ltold (e : ME)
  | lrep (es : MEs) (k : ME)
  | js (es : MEs)
inductive MEs where
  | nil
  | cons (e : ME) (r : MEs)
/-- an expression, or none -/
inductive MO where
  | no
  | so (e : ME)
inductive MI where
  | seq (e : ME)
  | rng1 (e : ME)
  | rng2 (a b : ME)
  | zip (a b : ME)
  | enum (a : ME)
end
/-- what stands in a slot: nothing, a value, a list that no one else holds, the bag -/
inductive Sl where
  | emp
  | val (d : D)
  | own (ds : List D)
  | bag
abbrev SEnv := List Sl
mutual
def bindT : Tgt → D → SEnv → Option SEnv
  | .nm i, d, σ => some (σ.set i (.val d))
  | .tp ts, d, σ => (match d with
    | .tuple ds => bindTs ts ds σ
    | _ => none)
def bindTs : List Tgt → List D → SEnv → Option SEnv
  | [], [], σ => some σ
  | t :: ts, d :: ds, σ => (match bindT t d σ with
    | some σ' => bindTs ts ds σ'
    | none => none)
  | _, _, _ => none
end
/-- the tables: constants of the module, defs, defs that draw from the bag -/
structure Tab where
  gc : Nat → D
  en : Nat → Option Str
  call : Nat → List D → R D
  callb : Nat → List D → Bg → M D
def boolM {β : Type} (x : M D) (f : Bool → Bg → M β) : M β := x.bind fun d B => match d with
  | .bool b => f b B
  | _ => .stuck
def optB (B : Bg) : Option Bool → M D
  | some b => .ok (.bool b, B)
  | none => .stuck
def zipD : List D → List D → List D
  | x :: xs, y :: ys => .tuple [x, y] :: zipD xs ys
  | _, _ => []
def enumD : Nat → List D → List D
  | _, [] => []
  | n, x :: xs => .tuple [.int n, x] :: enumD (n + 1) xs
def seqD : D → Option (List D)
  | .list x => some x
  | .tuple x => some x
  | _ => none
/-- the turns of a comprehension -/
def compL (f : D → Bg → M (Option D)) : List D → Bg → M (List D)
  | [], B => .ok ([], B)
  | d :: ds, B => (f d B).bind fun o B1 => (compL f ds B1).bind fun r B2 => match o with
    | some x => .ok (x :: r, B2)
    | none => .ok (r, B2)
def wipeE (σ : SEnv) : List Nat → SEnv
  | [] => σ
  | v :: vs => (wipeE σ vs).set v .emp
def getV (σ : SEnv) (i : Nat) : Option D := match σ[i]? with
  | some (.val d) => some d
  | some (.own ds) => some (.list ds)
  | _ => none
/-- the bag put out of sight -/
def noBag (σ : SEnv) : SEnv := σ.map fun s => match s with
  | .bag => .emp
  | s => s
mutual
def ev (Γ : Tab) : ME → SEnv → Bg → M D
  | .var i, σ, B => ofO B (getV σ i)
  | .con d, _, B => .ok (d, B)
  | .gcon g, _, B => .ok (Γ.gc g, B)
  | .tup es, σ, B => (evs Γ es σ B).bind fun ds B => .ok (.tuple ds, B)
  | .lst es, σ, B => (evs Γ es σ B).bind fun ds B => .ok (.list ds, B)
  | .bin o a b, σ, B => (ev Γ a σ B).bind fun x B => (ev Γ b σ B).bind fun y B => ofO B (binD o x y)
  | .nt a, σ, B => boolM (ev Γ a σ B) fun b B => .ok (.bool (!b), B)
  | .cmp o a b, σ, B => (ev Γ a σ B).bind fun x B => (ev Γ b σ B).bind fun y B => optB B (cmpD o x y)
  | .chain o o' a b c, σ, B => (ev Γ a σ B).bind fun x B => (ev Γ b σ B).bind fun y B => match cmpD o x y with
    | some true => (ev Γ c σ B).bind fun z B => optB B (cmpD o' y z)
    | some false => .ok (.bool false, B)
    | none => .stuck
  | .andv a b, σ, B => boolM (ev Γ a σ B) fun x B => match x with
    | true => boolM (ev Γ b σ B) fun y B => .ok (.bool y, B)
    | false => .ok (.bool false, B)
  | .orv a b, σ, B => boolM (ev Γ a σ B) fun x B => match x with
    | true => .ok (.bool true, B)
    | false => boolM (ev Γ b σ B) fun y B => .ok (.bool y, B)
  | .ite c a b, σ, B => boolM (ev Γ c σ B) fun x B => match x with
    | true => ev Γ a σ B
    | false => ev Γ b σ B
  | .ix a b, σ, B => (ev Γ a σ B).bind fun x B => (ev Γ b σ B).bind fun y B => ofO B (itemD x y)
  | .sl a lo hi, σ, B => (ev Γ a σ B).bind fun x B => (evo Γ lo σ B).bind fun l B => (evo Γ hi σ B).bind fun h B => ofO B (sliceD x l h)
  | .call f es, σ, B => (evs Γ es σ B).bind fun ds B => (Γ.call f ds).bind fun d => .ok (d, B)
  | .callb i f es, σ, B => (match σ[i]? with
    | some .bag => (evs Γ es σ B).bind fun ds B => Γ.callb f ds B
    | _ => .stuck)
  | .blt o a, σ, B => (ev Γ a σ B).bind fun x B => ofO B (bltD o x)
  | .blt2 o a b, σ, B => (ev Γ a σ B).bind fun x B => (ev Γ b σ B).bind fun y B => ofO B (blt2D o x y)
  | .isi a t, σ, B => (ev Γ a σ B).bind fun x B => optB B (isiD t x)
  | .bagne i, σ, B => (match σ[i]? with
    | some .bag => .ok (.bool (!B.isEmpty), B)
    | _ => .stuck)
  | .bagpop i, σ, B => (match σ[i]?, B with
    | some .bag, x :: r => .ok (.int x, r)
    | _, _ => .stuck)
  | .comp elt t it c vs, σ, B => (evi Γ it σ B).bind fun ds B => (compL (fun d B => match bindT t d (wipeE σ vs) with
      | none => .stuck
      | some τ => R.quiet ((evc Γ c τ B).bind fun ok B => match ok with
        | true => (ev Γ elt τ B).bind fun x B => .ok (some x, B)
        | false => .ok (none, B))) ds B).bind fun r B => .ok (.list r, B)
  | .join s a, σ, B => (ev Γ s σ B).bind fun x B => match x with
    | .str x => (ev Γ a σ B).bind fun y B => ofO B ((seqD y).bind (joinD x))
    | _ => .stuck
  | .split a s, σ, B => (ev Γ a σ B).bind fun x B => match x with
    | .str x => (ev Γ s σ B).bind fun y B => match y with
      | .str y => if (y.length == 0) = false ∧ x.length + 2 ≤ sizeLine ∧ (Txt.split x y).length ≤ sizeLine then .ok (.list ((Txt.split x y).map .str), B) else .stuck
      | _ => .stuck
    | _ => .stuck
  | .lerr e, σ, B => (match ev Γ e (noBag σ) [] with
    | .ok _ => .ok (.str Str.empty, B)
    | .err c => ofO B ((Γ.en c).map .str)
    | .stuck => .stuck)
  | .ltold e, σ, B => (match ev Γ e (noBag σ) [] with
    | .ok (d, _) => .ok (.tuple [d, .str Str.empty], B)
    | .err c => ofO B ((Γ.en c).map fun x => .tuple [.none, .str x])
    | .stuck => .stuck)
  | .lrep es k, σ, B => (evs Γ es σ B).bind fun ds B => (ev Γ k σ B).bind fun y B => match y with
    | .int k => if 0 ≤ k ∧ k ≤ 1000 ∧ ds.length ≤ 1000 then .ok (.list (List.replicate k.toNat ds).flatten, B) else .stuck
    | _ => .stuck
  | .js es, σ, B => (evj Γ es Str.empty σ B).bind fun x B => .ok (.str x, B)
/-- the parts of an f-string, one behind the other -/
def evj (Γ : Tab) : MEs → Str → SEnv → Bg → M Str
  | .nil, acc, _, B => .ok (acc, B)
  | .cons e r, acc, σ, B => (ev Γ e σ B).bind fun x B => match x with
    | .str y => if (acc ++ y).length ≤ sizeLine then evj Γ r (acc ++ y) σ B else .stuck
    | _ => .stuck
def evs (Γ : Tab) : MEs → SEnv → Bg → M (List D)
  | .nil, _, B => .ok ([], B)
  | .cons e r, σ, B => (ev Γ e σ B).bind fun x B => (evs Γ r σ B).bind fun xs B => .ok (x :: xs, B)
def evo (Γ : Tab) : MO → SEnv → Bg → M (Option Int)
  | .no, _, B => .ok (none, B)
  | .so e, σ, B => (ev Γ e σ B).bind fun x B => match x with
    | .int i => .ok (some i, B)
    | _ => .stuck
/-- a comprehension's test -/
def evc (Γ : Tab) : MO → SEnv → Bg → M Bool
  | .no, _, B => .ok (true, B)
  | .so e, σ, B => (ev Γ e σ B).bind fun x B => match x with
    | .bool b => .ok (b, B)
    | _ => .stuck
def evi (Γ : Tab) : MI → SEnv → Bg → M (List D)
  | .seq e, σ, B => (ev Γ e σ B).bind fun x B => ofO B (seqD x)
  | .rng1 e, σ, B => (ev Γ e σ B).bind fun x B => match x with
    | .int j => if rngOk 0 j then .ok (rangeD 0 j.toNat, B) else .stuck
    | _ => .stuck
  | .rng2 a b, σ, B => (ev Γ a σ B).bind fun x B => (ev Γ b σ B).bind fun y B => match x, y with
    | .int i, .int j => if rngOk i j then .ok (rangeD i (j - i).toNat, B) else .stuck
    | _, _ => .stuck
  | .zip a b, σ, B => (ev Γ a σ B).bind fun x B => (ev Γ b σ B).bind fun y B => match x, y with
    | .list xs, .list ys => .ok (zipD xs ys, B)
    | .tuple xs, .tuple ys => .ok (zipD xs ys, B)
    | _, _ => .stuck
  | .enum a, σ, B => (ev Γ a σ B).bind fun x B => match seqD x with
    | some xs => .ok (enumD 0 xs, B)
    | none => .stuck
end
mutual
inductive MS where
  | asg (t : Tgt) (e : ME)
  | asgO (i : Nat) (e : ME)
  | par (i j : Nat) (a b : ME)
  | par3 (i j k : Nat) (a b c : ME)
  | setL (i : Nat) (k e : ME)
  | app (i : Nat) (e : ME)
  | keep (i : Nat)
  | setbag (i f : Nat) (es : MEs)
  | expr (e : ME)
  | ret (e : ME)
  | retO (i : Nat)
  | ife (c : ME) (a b : MSs)
  | forr (t : Tgt) (it : MI) (body : MSs)
  | whil (c : ME) (body : MSs)
  | raise (c : Nat)
inductive MSs where
  | nil
  | cons (s : MS) (r : MSs)
end
/-- behind a statement: on, with the slots; or a value given back -/
inductive Fl where
  | nx (σ : SEnv)
  | rt (d : D)
def onE (x : M (Option SEnv)) : M Fl := x.bind fun o B => match o with
  | some σ => .ok (.nx σ, B)
  | none => .stuck
def forL (f : D → SEnv → Bg → M Fl) : List D → SEnv → Bg → M Fl
  | [], σ, B => .ok (.nx σ, B)
  | d :: ds, σ, B => (f d σ B).bind fun r B => match r with
    | .nx σ => forL f ds σ B
    | .rt d => .ok (.rt d, B)
def whileL (c : SEnv → Bg → M D) (f : SEnv → Bg → M Fl) : Nat → SEnv → Bg → M Fl
  | 0, _, _ => .stuck
  | n + 1, σ, B => (c σ B).bind fun x B => match x with
    | .bool true => (f σ B).bind fun r B => match r with
      | .nx σ => whileL c f n σ B
      | .rt d => .ok (.rt d, B)
    | .bool false => .ok (.nx σ, B)
    | _ => .stuck
/-- as many turns as a while may take here -/
def turns : Nat := 1000000
def isBag : Sl → Bool
  | .bag => true
  | _ => false
/-- no slot but the i-th holds the bag -/
def bagFree : Nat → SEnv → Bool
  | _, [] => false
  | 0, _ :: r => r.all fun s => !isBag s
  | i + 1, s :: r => !isBag s && bagFree i r
mutual
def evS (Γ : Tab) : MS → SEnv → Bg → M Fl
  | .asg t e, σ, B => onE ((ev Γ e σ B).bind fun x B => .ok (bindT t x σ, B))
  | .asgO i e, σ, B => (ev Γ e σ B).bind fun x B => match σ[i]? with
    | none => .stuck
    | some .bag => .stuck
    | some _ => (match x with
      | .list ds => .ok (.nx (σ.set i (.own ds)), B)
      | _ => .stuck)
  | .par i j a b, σ, B => (ev Γ a σ B).bind fun x B => (ev Γ b σ B).bind fun y B => .ok (.nx ((σ.set i (.val x)).set j (.val y)), B)
  | .par3 i j k a b c, σ, B => (ev Γ a σ B).bind fun x B => (ev Γ b σ B).bind fun y B => (ev Γ c σ B).bind fun z B => .ok (.nx (((σ.set i (.val x)).set j (.val y)).set k (.val z)), B)
  | .setL i k e, σ, B => (ev Γ e σ B).bind fun x B => match σ[i]? with
    | some (.own ds) => (ev Γ k σ B).bind fun y B => (match y with
      | .int k => (match ixD ds.length k with
        | some j => .ok (.nx (σ.set i (.own (ds.set j x))), B)
        | none => .stuck)
      | _ => .stuck)
    | _ => .stuck
  | .app i e, σ, B => (match σ[i]? with
    | some (.own ds) => (ev Γ e σ B).bind fun x B => if ds.length < sizeLine then .ok (.nx (σ.set i (.own (ds ++ [x]))), B) else .stuck
    | _ => .stuck)
  | .keep i, σ, B => (match σ[i]? with
    | some (.own ds) => .ok (.nx (σ.set i (.val (.list ds))), B)
    | _ => .stuck)
  | .setbag i f es, σ, B => (evs Γ es σ B).bind fun ds _ => (Γ.call f ds).bind fun d => match d with
    | .list xs => (match ints? xs with
      | some ns => if bagFree i σ then .ok (.nx (σ.set i .bag), ns) else .stuck
      | none => .stuck)
    | _ => .stuck
  | .expr e, σ, B => (ev Γ e σ B).bind fun _ B => .ok (.nx σ, B)
  | .ret e, σ, B => (ev Γ e σ B).bind fun x B => .ok (.rt x, B)
  | .retO i, σ, B => (match σ[i]? with
    | some (.own ds) => .ok (.rt (.list ds), B)
    | _ => .stuck)
  | .ife c a b, σ, B => (ev Γ c σ B).bind fun x B => match x with
    | .bool true => evSs Γ a σ B
    | .bool false => evSs Γ b σ B
    | _ => .stuck
  | .forr t it body, σ, B => (evi Γ it σ B).bind fun ds B => forL (fun d σ B => match bindT t d σ with
      | some τ => evSs Γ body τ B
      | none => .stuck) ds σ B
  | .whil c body, σ, B => whileL (fun σ B => ev Γ c σ B) (fun σ B => evSs Γ body σ B) turns σ B
  | .raise c, _, _ => .err c
def evSs (Γ : Tab) : MSs → SEnv → Bg → M Fl
  | .nil, σ, B => .ok (.nx σ, B)
  | .cons s r, σ, B => (evS Γ s σ B).bind fun x B => match x with
    | .nx σ => evSs Γ r σ B
    | .rt d => .ok (.rt d, B)
end
/-- a def: its parameters, its slots, whether the first parameter is the bag, whether it hands back a new list, its body -/
structure Fn where
  np : Nat
  nl : Nat
  bag : Bool
  new : Bool
  body : MSs
def startE (f : Fn) (ds : List D) : SEnv := (if f.bag then [Sl.bag] else []) ++ ds.map .val ++ List.replicate (f.nl - f.np) .emp
def endD (r : M Fl) : M D := r.bind fun x B => match x with
  | .nx _ => .ok (.none, B)
  | .rt d => .ok (d, B)
/-- the program: constants, defs -/
structure Prog where
  gc : Nat → D
  en : Nat → Option Str
  nat : Nat → Option (List D → R D)
  fn : Nat → Option Fn
mutual
def callP (P : Prog) : Nat → Nat → List D → R D
  | 0, _, _ => .stuck
  | n + 1, f, ds => match P.nat f with
    | some g => g ds
    | none => match P.fn f with
    | some g => if g.bag = false ∧ ds.length = g.np then (match endD (evSs ⟨P.gc, P.en, callP P n, callB P n⟩ g.body (startE g ds) []) with
        | .ok (d, _) => .ok d
        | .err c => .err c
        | .stuck => .stuck) else .stuck
    | none => .stuck
def callB (P : Prog) : Nat → Nat → List D → Bg → M D
  | 0, _, _, _ => .stuck
  | n + 1, f, ds, B => match P.fn f with
    | some g => if g.bag = true ∧ ds.length + 1 = g.np then endD (evSs ⟨P.gc, P.en, callP P n, callB P n⟩ g.body (startE g ds) B) else .stuck
    | none => .stuck
end
def tab (P : Prog) (n : Nat) : Tab := ⟨P.gc, P.en, callP P n, callB P n⟩
end PD
set_option linter.all false
set_option maxRecDepth 100000
set_option maxHeartbeats 1000000
/-! Plain data as it lies in the heap. -/
namespace PD
open PySem PySem.Spec PyProof.Rows L2
section
variable (K : PySem.W.Frag) (H : Hp) (A : Addr → Prop)
/-- a list that is none of A, or that stands for ever -/
def Lq (a : Addr) (xs : List V) : Prop := (H a = some (.lst xs) ∧ ¬ A a) ∨ (∃ o, H a = some (.frz o (.lst xs))) ∨
  ∃ (o : Obj) (its : Array Value) (n : Nat), K.lookup a = some o ∧ o.cls = .type "list" ∧ o.dict = none ∧ o.data = .seq its n ∧ its.size ≤ sizeLine ∧ Vals xs its.toList
mutual
/-- the value v bears the data d; A: the lists that do not lie within -/
def Dv : D → V → Prop
  | .none, v => v = .non
  | .bool b, v => v = .bl b
  | .int i, v => v = .int i
  | .str x, v => v = .str x
  | .list ds, v => ∃ a xs, v = .ref a ∧ Lq K H A a xs ∧ xs.length ≤ sizeLine ∧ DvAll ds xs
  | .tuple ds, v => ∃ a xs, v = .ref a ∧ SqT K H a xs ∧ xs.length ≤ sizeLine ∧ DvAll ds xs
  | .dict _, _ => False
def DvAll : List D → List V → Prop
  | [], vs => vs = []
  | d :: ds, vs => ∃ v r, vs = v :: r ∧ Dv d v ∧ DvAll ds r
end
end
variable {K : PySem.W.Frag} {H H' : Hp} {A A' : Addr → Prop}
theorem Same.sqT {a : Addr} {xs : List V} (e : Same H H') (h : SqT K H a xs) : SqT K H' a xs := by
  rcases h with (h | ⟨o, h⟩) | h
  · exact .inl (.inl (e _ _ h))
  · exact .inl (.inr ⟨o, e _ _ h⟩)
  · exact .inr h
theorem Lq.sq {a : Addr} {xs : List V} (h : Lq K H A a xs) : SqL K H a xs := by
  rcases h with h | h | h
  · exact .inl (.inl h.1)
  · exact .inl (.inr h)
  · exact .inr h
theorem Lq.mk {a : Addr} {xs : List V} (h : SqL K H a xs) (n : ¬ A a) : Lq K H A a xs := by
  rcases h with (h | h) | h
  · exact .inl ⟨h, n⟩
  · exact .inr (.inl h)
  · exact .inr (.inr h)
mutual
theorem Dv.dp : ∀ (d : D) {v : V}, Dv K H A d v → Dp K H v d
  | .none, v, h => by simp only [Dv] at h; subst h; exact .non
  | .bool b, v, h => by simp only [Dv] at h; subst h; exact .bl b
  | .int i, v, h => by simp only [Dv] at h; subst h; exact .int i
  | .str x, v, h => by simp only [Dv] at h; subst h; exact .str x
  | .list ds, v, h => by simp only [Dv] at h; obtain ⟨a, xs, rfl, h1, _, h2⟩ := h; exact .lst h1.sq (DvAll.dp ds h2)
  | .tuple ds, v, h => by simp only [Dv] at h; obtain ⟨a, xs, rfl, h1, _, h2⟩ := h; exact .tup h1 (DvAll.dp ds h2)
  | .dict _, v, h => by simp only [Dv] at h
theorem DvAll.dp : ∀ (ds : List D) {vs : List V}, DvAll K H A ds vs → DpAll K H vs ds
  | [], vs, h => by simp only [DvAll] at h; subst h; exact .nil
  | d :: ds, vs, h => by simp only [DvAll] at h; obtain ⟨v, r, rfl, h1, h2⟩ := h; exact .cons (Dv.dp d h1) (DvAll.dp ds h2)
end
/-- from one heap, and one lot of lists that are left out, to another -/
structure Thru (K : PySem.W.Frag) (H H' : Hp) (A A' : Addr → Prop) : Prop where
  l : ∀ a xs, Lq K H A a xs → Lq K H' A' a xs
  t : ∀ a xs, SqT K H a xs → SqT K H' a xs
mutual
theorem Dv.thru (e : Thru K H H' A A') : ∀ (d : D) {v : V}, Dv K H A d v → Dv K H' A' d v
  | .none, v, h => by simp only [Dv] at h ⊢; exact h
  | .bool b, v, h => by simp only [Dv] at h ⊢; exact h
  | .int i, v, h => by simp only [Dv] at h ⊢; exact h
  | .str x, v, h => by simp only [Dv] at h ⊢; exact h
  | .list ds, v, h => by
    simp only [Dv] at h ⊢; obtain ⟨a, xs, e1, h1, h3, h4⟩ := h
    exact ⟨a, xs, e1, e.l a xs h1, h3, DvAll.thru e ds h4⟩
  | .tuple ds, v, h => by
    simp only [Dv] at h ⊢; obtain ⟨a, xs, e1, h1, h3, h4⟩ := h
    exact ⟨a, xs, e1, e.t a xs h1, h3, DvAll.thru e ds h4⟩
  | .dict _, v, h => by simp only [Dv] at h
theorem DvAll.thru (e : Thru K H H' A A') : ∀ (ds : List D) {vs : List V}, DvAll K H A ds vs → DvAll K H' A' ds vs
  | [], vs, h => by simp only [DvAll] at h ⊢; exact h
  | d :: ds, vs, h => by simp only [DvAll] at h ⊢; obtain ⟨v, r, rfl, h1, h2⟩ := h; exact ⟨v, r, rfl, Dv.thru e d h1, DvAll.thru e ds h2⟩
end
theorem Thru.same (e : Same H H') : Thru K H H' A A := ⟨fun a xs h => by
    rcases h with h | ⟨o, h⟩ | h
    · exact .inl ⟨e _ _ h.1, h.2⟩
    · exact .inr (.inl ⟨o, e _ _ h⟩)
    · exact .inr (.inr h), fun a xs h => Same.sqT e h⟩
theorem Thru.less (e : ∀ a, A' a → A a) : Thru K H H A A' := ⟨fun a xs h => by
    rcases h with h | h | h
    · exact .inl ⟨h.1, fun z => h.2 (e a z)⟩
    · exact .inr (.inl h)
    · exact .inr (.inr h), fun a xs h => h⟩
theorem Dv.same {d : D} {v : V} (e : Same H H') (h : Dv K H A d v) : Dv K H' A d v := Dv.thru (.same e) d h
theorem DvAll.same {ds : List D} {vs : List V} (e : Same H H') (h : DvAll K H A ds vs) : DvAll K H' A ds vs := DvAll.thru (.same e) ds h
theorem Dv.less {d : D} {v : V} (e : ∀ a, A' a → A a) (h : Dv K H A d v) : Dv K H A' d v := Dv.thru (.less e) d h
theorem DvAll.less {ds : List D} {vs : List V} (e : ∀ a, A' a → A a) (h : DvAll K H A ds vs) : DvAll K H A' ds vs := DvAll.thru (.less e) ds h
theorem same_new {p : Addr} {o : HO} (h : H p = none) : Same H (upd H p o) := fun b u e => by rw [upd_ne (ne_of_none e h)]; exact e
/-! ### rows of values -/
theorem DvAll.nil : DvAll K H A [] [] := by simp only [DvAll]
theorem DvAll.cons {d : D} {ds : List D} {v : V} {vs : List V} (h : Dv K H A d v) (t : DvAll K H A ds vs) : DvAll K H A (d :: ds) (v :: vs) := by simp only [DvAll]; exact ⟨v, vs, rfl, h, t⟩
theorem DvAll.uncons {d : D} {ds : List D} {vs : List V} (h : DvAll K H A (d :: ds) vs) : ∃ v r, vs = v :: r ∧ Dv K H A d v ∧ DvAll K H A ds r := by simpa only [DvAll] using h
theorem DvAll.eqnil {vs : List V} (h : DvAll K H A [] vs) : vs = [] := by simpa only [DvAll] using h
theorem DvAll.length : ∀ {ds : List D} {vs : List V}, DvAll K H A ds vs → vs.length = ds.length
  | [], _, h => by rw [h.eqnil]; rfl
  | d :: ds, _, h => by
    obtain ⟨v, r, rfl, _, t⟩ := h.uncons
    simp [DvAll.length t]
theorem DvAll.get : ∀ {ds : List D} {vs : List V} {i : Nat} {d : D}, DvAll K H A ds vs → ds[i]? = some d → ∃ v, vs[i]? = some v ∧ Dv K H A d v
  | [], _, i, d, h, e => by simp at e
  | d :: ds, _, i, d', h, e => by
    obtain ⟨v, r, rfl, h1, t⟩ := h.uncons
    cases i with
    | zero => simp at e; subst e; exact ⟨v, rfl, h1⟩
    | succ i => exact DvAll.get (i := i) t (by simpa using e)
theorem DvAll.append : ∀ {ds es : List D} {vs ws : List V}, DvAll K H A ds vs → DvAll K H A es ws → DvAll K H A (ds ++ es) (vs ++ ws)
  | [], _, _, _, h, t => by rw [h.eqnil]; exact t
  | d :: ds, _, _, _, h, t => by
    obtain ⟨v, r, rfl, h1, h2⟩ := h.uncons
    exact .cons h1 (DvAll.append h2 t)
theorem DvAll.take : ∀ {ds : List D} {vs : List V} (n : Nat), DvAll K H A ds vs → DvAll K H A (ds.take n) (vs.take n)
  | _, _, 0, _ => .nil
  | [], _, n + 1, h => by rw [h.eqnil]; exact .nil
  | d :: ds, _, n + 1, h => by
    obtain ⟨v, r, rfl, h1, h2⟩ := h.uncons
    exact .cons h1 (DvAll.take n h2)
theorem DvAll.drop : ∀ {ds : List D} {vs : List V} (n : Nat), DvAll K H A ds vs → DvAll K H A (ds.drop n) (vs.drop n)
  | _, _, 0, h => h
  | [], _, n + 1, h => by rw [h.eqnil]; exact .nil
  | d :: ds, _, n + 1, h => by
    obtain ⟨v, r, rfl, h1, h2⟩ := h.uncons
    exact DvAll.drop n h2
theorem DvAll.reverse : ∀ {ds : List D} {vs : List V}, DvAll K H A ds vs → DvAll K H A ds.reverse vs.reverse
  | [], _, h => by rw [h.eqnil]; exact .nil
  | d :: ds, _, h => by
    obtain ⟨v, r, rfl, h1, h2⟩ := h.uncons
    rw [List.reverse_cons, List.reverse_cons]
    exact .append (DvAll.reverse h2) (.cons h1 .nil)
theorem DvAll.set {d : D} {v : V} (hd : Dv K H A d v) : ∀ {ds : List D} {vs : List V} (n : Nat), DvAll K H A ds vs → DvAll K H A (ds.set n d) (vs.set n v)
  | [], _, n, h => by rw [h.eqnil]; cases n <;> exact .nil
  | _ :: _, _, 0, h => by
    obtain ⟨v, r, rfl, h1, h2⟩ := h.uncons
    exact .cons hd h2
  | _ :: _, _, n + 1, h => by
    obtain ⟨v, r, rfl, h1, h2⟩ := h.uncons
    exact .cons h1 (DvAll.set hd n h2)
theorem DvAll.rep {ds : List D} {vs : List V} (h : DvAll K H A ds vs) : ∀ n : Nat, DvAll K H A (List.replicate n ds).flatten (List.replicate n vs).flatten
  | 0 => .nil
  | n + 1 => by
    rw [List.replicate_succ, List.replicate_succ, List.flatten_cons, List.flatten_cons]
    exact h.append (DvAll.rep h n)
theorem cutV_eq (vs : List V) (lo hi : Option Int) : cutV vs lo hi = cutL vs lo hi := by
  have e : ∀ n d o, HT.sIx n d o = cutAt n d o := fun n d o => by cases o <;> rfl
  unfold cutV cutL
  rw [e, e]
theorem DvAll.cut {ds : List D} {vs : List V} (h : DvAll K H A ds vs) (lo hi : Option Int) : DvAll K H A (cutL ds lo hi) (cutV vs lo hi) := by
  rw [cutV_eq]
  unfold cutL
  rw [h.length]
  exact (h.drop _).take _
theorem DvAll.ints : ∀ {ds : List D} {vs : List V} {ns : List Int}, DvAll K H A ds vs → ints? ds = some ns → vs = ns.map V.int
  | [], _, ns, h, e => by simp only [ints?] at e; cases e; exact h.eqnil
  | d :: ds, _, ns, h, e => by
    obtain ⟨v, r, rfl, h1, h2⟩ := h.uncons
    cases d with
    | int i =>
      simp only [ints?, Option.map_eq_some_iff] at e
      obtain ⟨ms, e1, rfl⟩ := e
      simp only [Dv] at h1
      rw [h1, DvAll.ints h2 e1]; rfl
    | _ => simp only [ints?] at e; cases e
theorem DvAll.bools : ∀ {ds : List D} {vs : List V} {ns : List Bool}, DvAll K H A ds vs → bools? ds = some ns → vs = ns.map V.bl
  | [], _, ns, h, e => by simp only [bools?] at e; cases e; exact h.eqnil
  | d :: ds, _, ns, h, e => by
    obtain ⟨v, r, rfl, h1, h2⟩ := h.uncons
    cases d with
    | bool i =>
      simp only [bools?, Option.map_eq_some_iff] at e
      obtain ⟨ms, e1, rfl⟩ := e
      simp only [Dv] at h1
      rw [h1, DvAll.bools h2 e1]; rfl
    | _ => simp only [bools?] at e; cases e
theorem DvAll.strs : ∀ {ds : List D} {vs : List V} {ns : List Str}, DvAll K H A ds vs → strs? ds = some ns → vs = ns.map V.str
  | [], _, ns, h, e => by simp only [strs?] at e; cases e; exact h.eqnil
  | d :: ds, _, ns, h, e => by
    obtain ⟨v, r, rfl, h1, h2⟩ := h.uncons
    cases d with
    | str i =>
      simp only [strs?, Option.map_eq_some_iff] at e
      obtain ⟨ms, e1, rfl⟩ := e
      simp only [Dv] at h1
      rw [h1, DvAll.strs h2 e1]; rfl
    | _ => simp only [strs?] at e; cases e
theorem DvAll.ofInts : ∀ ns : List Int, DvAll K H A (ns.map PyData.int) (ns.map V.int)
  | [] => .nil
  | n :: ns => .cons (by simp only [Dv]) (DvAll.ofInts ns)
theorem DvAll.ofStrs : ∀ ns : List Str, DvAll K H A (ns.map PyData.str) (ns.map V.str)
  | [] => .nil
  | n :: ns => .cons (by simp only [Dv]) (DvAll.ofStrs ns)
theorem Dv.l {ds : List D} {v : V} (h : Dv K H A (.list ds) v) : ∃ a xs, v = .ref a ∧ Lq K H A a xs ∧ xs.length ≤ sizeLine ∧ DvAll K H A ds xs := by simpa only [Dv] using h
theorem Dv.t {ds : List D} {v : V} (h : Dv K H A (.tuple ds) v) : ∃ a xs, v = .ref a ∧ SqT K H a xs ∧ xs.length ≤ sizeLine ∧ DvAll K H A ds xs := by simpa only [Dv] using h
theorem Dv.i {i : Int} {v : V} (h : Dv K H A (.int i) v) : v = .int i := by simpa only [Dv] using h
theorem Dv.b {i : Bool} {v : V} (h : Dv K H A (.bool i) v) : v = .bl i := by simpa only [Dv] using h
theorem Dv.s {i : Str} {v : V} (h : Dv K H A (.str i) v) : v = .str i := by simpa only [Dv] using h
theorem Dv.n {v : V} (h : Dv K H A .none v) : v = .non := by simpa only [Dv] using h
theorem Dv.ofI (i : Int) : Dv K H A (.int i) (.int i) := by simp only [Dv]
theorem Dv.ofB (i : Bool) : Dv K H A (.bool i) (.bl i) := by simp only [Dv]
theorem Dv.ofS (i : Str) : Dv K H A (.str i) (.str i) := by simp only [Dv]
theorem Dv.ofN : Dv K H A .none .non := by simp only [Dv]
theorem Dv.mkT {ds : List D} {a : Addr} {xs : List V} (h : SqT K H a xs) (z : xs.length ≤ sizeLine) (t : DvAll K H A ds xs) : Dv K H A (.tuple ds) (.ref a) := by simp only [Dv]; exact ⟨a, xs, rfl, h, z, t⟩
theorem Dv.mkL {ds : List D} {a : Addr} {xs : List V} (h : SqL K H a xs) (n : ¬ A a) (z : xs.length ≤ sizeLine) (t : DvAll K H A ds xs) : Dv K H A (.list ds) (.ref a) := by simp only [Dv]; exact ⟨a, xs, rfl, .mk h n, z, t⟩
/-- the lists that are left out stand in the heap -/
def Dom (A : Addr → Prop) (H : Hp) : Prop := ∀ a, A a → ∃ o, H a = some o ∧ ∀ ps, o ≠ .tbl ps
theorem Dom.ne (dA : Dom A H) {p : Addr} (h : H p = none) : ¬ A p := fun q => by
  obtain ⟨o, e, _⟩ := dA p q
  rw [h] at e; cases e
theorem Dv.newT {ds : List D} {p : Addr} {xs : List V} (h : H p = none) (z : xs.length ≤ sizeLine) (t : DvAll K H A ds xs) : Dv K (upd H p (.tup xs)) A (.tuple ds) (.ref p) :=
  .mkT (SqT.of upd_same) z (t.same (same_new h))
theorem Dv.newL {ds : List D} {p : Addr} {xs : List V} (dA : Dom A H) (h : H p = none) (z : xs.length ≤ sizeLine) (t : DvAll K H A ds xs) : Dv K (upd H p (.lst xs)) A (.list ds) (.ref p) :=
  Dv.mkL (SqL.of upd_same) (dA.ne h) z (t.same (same_new h))
/-- what is wanted of a value that is handed on -/
def Out (K : PySem.W.Frag) (A : Addr → Prop) (H : Hp) (d : D) (Q : VK) : Prop := ∀ v H', Same H H' → Dv K H' A d v → Q v H'
theorem Out.here {d : D} {v : V} {Q : VK} (q : Out K A H d Q) (h : Dv K H A d v) : Q v H := q v H (.refl H) h
theorem Out.tup {ds : List D} {Q : VK} {p : Addr} {xs : List V} (q : Out K A H (.tuple ds) Q) (h : H p = none) (z : xs.length ≤ sizeLine) (t : DvAll K H A ds xs) : Q (.ref p) (upd H p (.tup xs)) := q _ _ (same_new h) (.newT h z t)
theorem Out.lst {ds : List D} {Q : VK} {p : Addr} {xs : List V} (q : Out K A H (.list ds) Q) (dA : Dom A H) (h : H p = none) (z : xs.length ≤ sizeLine) (t : DvAll K H A ds xs) : Q (.ref p) (upd H p (.lst xs)) := q _ _ (same_new h) (.newL dA h z t)
/-- as Dv, but the list itself may be one that is left out -/
def Di (K : PySem.W.Frag) (H : Hp) (A : Addr → Prop) : D → V → Prop
  | .list ds, v => ∃ a xs, v = .ref a ∧ SqL K H a xs ∧ xs.length ≤ sizeLine ∧ DvAll K H A ds xs
  | d, v => Dv K H A d v
theorem Dv.di {d : D} {v : V} (h : Dv K H A d v) : Di K H A d v := by
  cases d with
  | list ds => obtain ⟨a, xs, e, h1, z, t⟩ := h.l; exact ⟨a, xs, e, h1.sq, z, t⟩
  | _ => exact h
theorem Di.l {ds : List D} {v : V} (h : Di K H A (.list ds) v) : ∃ a xs, v = .ref a ∧ SqL K H a xs ∧ xs.length ≤ sizeLine ∧ DvAll K H A ds xs := h
theorem Di.t {ds : List D} {v : V} (h : Di K H A (.tuple ds) v) : ∃ a xs, v = .ref a ∧ SqT K H a xs ∧ xs.length ≤ sizeLine ∧ DvAll K H A ds xs := Dv.t (K := K) (H := H) (A := A) h
theorem Di.i {i : Int} {v : V} (h : Di K H A (.int i) v) : v = .int i := Dv.i (K := K) (H := H) (A := A) h
theorem Di.b {i : Bool} {v : V} (h : Di K H A (.bool i) v) : v = .bl i := Dv.b (K := K) (H := H) (A := A) h
theorem Di.s {i : Str} {v : V} (h : Di K H A (.str i) v) : v = .str i := Dv.s (K := K) (H := H) (A := A) h
theorem Di.n {v : V} (h : Di K H A .none v) : v = .non := Dv.n (K := K) (H := H) (A := A) h
theorem Di.no {kvs : List (D × D)} {v : V} (h : Di K H A (.dict kvs) v) : False := by
  have h1 : Dv K H A (.dict kvs) v := h
  simp only [Dv] at h1
theorem Di.dp {d : D} {v : V} (h : Di K H A d v) : Dp K H v d := by
  cases d with
  | list ds => obtain ⟨a, xs, rfl, h1, z, t⟩ := h; exact .lst h1 (t.dp ds)
  | _ => exact Dv.dp (A := A) _ h
theorem Di.less {d : D} {v : V} (e : ∀ a, A' a → A a) (h : Di K H A d v) : Di K H A' d v := by
  cases d with
  | list ds => obtain ⟨a, xs, e1, h1, z, t⟩ := h; exact ⟨a, xs, e1, h1, z, t.less e⟩
  | _ => exact Dv.less e h
/-- as Di, the list itself being none of A0 -/
def Dj (K : PySem.W.Frag) (H : Hp) (A0 A : Addr → Prop) : D → V → Prop
  | .list ds, v => ∃ a xs, v = .ref a ∧ Lq K H A0 a xs ∧ xs.length ≤ sizeLine ∧ DvAll K H A ds xs
  | d, v => Dv K H A d v
theorem Lq.less {a : Addr} {xs : List V} (e : ∀ a, A' a → A a) (h : Lq K H A a xs) : Lq K H A' a xs := (Thru.less (H := H) (K := K) e).l a xs h
theorem Dj.di {A0 : Addr → Prop} {d : D} {v : V} (h : Dj K H A0 A d v) : Di K H A d v := by
  cases d with
  | list ds => obtain ⟨a, xs, e, h1, z, t⟩ := h; exact ⟨a, xs, e, h1.sq, z, t⟩
  | _ => exact h
theorem Dv.dj {A0 : Addr → Prop} {d : D} {v : V} (e : ∀ a, A0 a → A a) (h : Dv K H A d v) : Dj K H A0 A d v := by
  cases d with
  | list ds => obtain ⟨a, xs, e1, h1, z, t⟩ := h.l; exact ⟨a, xs, e1, h1.less e, z, t⟩
  | _ => exact h
theorem Dj.thru {A0 A0' : Addr → Prop} (e0 : Thru K H H' A0 A0') (e : Thru K H H' A A') {d : D} {v : V} (h : Dj K H A0 A d v) : Dj K H' A0' A' d v := by
  cases d with
  | list ds => obtain ⟨a, xs, e1, h1, z, t⟩ := h; exact ⟨a, xs, e1, e0.l a xs h1, z, DvAll.thru e ds t⟩
  | _ => exact Dv.thru e _ h
/-! ### operations, by data -/
def rD1 (K : PySem.W.Frag) (f : D → Option D) : V → Hp → VK → Prop := fun x H Q => ∃ A dx d, Dom A H ∧ Di K H A dx x ∧ f dx = some d ∧ Out K A H d Q
def rD2 (K : PySem.W.Frag) (f : D → D → Option D) : R2 := fun x y H Q => ∃ A dx dy d, Dom A H ∧ Di K H A dx x ∧ Di K H A dy y ∧ f dx dy = some d ∧ Out K A H d Q
section
variable {X : Cx}
def rCatS (K : PySem.W.Frag) : R2 := fun x y H Q => ∃ l b xs zs, x = .ref l ∧ y = .ref b ∧ SqL K H l xs ∧ SqL K H b zs ∧ xs.length + zs.length ≤ sizeLine ∧ ∀ p, H p = none → Q (.ref p) (upd H p (.lst (xs ++ zs)))
theorem op_catS : OpR X (binaryOp .Add) (rCatS X.K) := by
  intro pins s σ H x y v u Q I rx ry ⟨l, b, xs, zs, ex, ey, hl, hb, hz, q⟩
  subst ex ey
  cases rx
  cases ry
  obtain ⟨its, r, ⟨⟨c1, d1, t1, s1⟩, n, e1, hc1, hd1, hs1⟩, z1⟩ := I.list hl
  obtain ⟨its2, r2, ⟨⟨c2, d2, t2, s2⟩, n2, e2, hc2, hd2, hs2⟩, z2⟩ := I.list hb
  simp only at hc1 hd1 hs1 hc2 hd2 hs2
  subst hc1 hd1 hs1 hc2 hd2 hs2
  have l1 := r.length
  have l2 := r2.length
  have ea : its.toArray ++ its2.toArray = (its ++ its2).toArray := by simp
  have hz2 : its.toArray.size + its2.toArray.size ≤ sizeLine := by rw [List.size_toArray, List.size_toArray]; omega
  refine concat_meets ⟨_, e1, rfl⟩ ⟨_, e2, rfl⟩ noFill_list_add seq_list_add PySem.F.slot_list_add PySem.F.entry_list_add (PySem.F.args_list_add_2 _ _) (PyProof.Rows.list_addW l b its.toArray its2.toArray n n2 none none s1 s2 hz2) ⟨e1, e2, ?_⟩
  rw [ea]
  exact ⟨.ref _, _, I.lnew (t' := s.toks) (r.append r2) (by rw [List.length_append]; omega), rfl, q _ I.fresh⟩
end
end PD
set_option linter.all false
set_option maxRecDepth 100000
set_option maxHeartbeats 1000000
/-! Operators, comparisons, subscripts, built-ins, by data. -/
namespace PD
open PySem PySem.Spec PyProof.Rows L2
section
variable {X : Cx}
def bop : BinO → Operator
  | .add => .Add | .sub => .Sub | .mul => .Mult | .fdiv => .FloorDiv | .mod => .Mod | .pow => .Pow
theorem tuple_mul1 (l : Addr) (items : Array Value) (n : Nat) (dd : Option Addr) (sl : Array (Option Value)) (u : Tok) :
    Meets (Builtin.«tuple.__mul__» ⟨[.ref l, .int 1 u], []⟩) (fun _ R s => s.heap.get? l = some { cls := .type "tuple", dict := dd, data := .seq items n, slots := sl } ∧ R (.ok (.ret (Value.ref l))) s) :=
  .of_wp fun prog w A R s h => by
    obtain ⟨hp, g, d, tk, os⟩ := s
    obtain ⟨hl, h⟩ := h
    have f1 := AutoSeq1.idx_int
    wp_walk using wpAny_loadPart' hl
    all_goals exact ⟨_, rfl, h⟩
theorem op_repT1 : OpR X (binaryOp .Mult) (fun x y H Q => ∃ l xs, x = .ref l ∧ y = .int 1 ∧ SqT X.K H l xs ∧ Q (.ref l) H) := by
  intro pins s σ H x y v u Q I rx ry ⟨l, xs, ex, ey, hT, q⟩
  subst ex ey
  cases rx
  obtain ⟨t, rfl⟩ := ry
  obtain ⟨its, r, ⟨⟨cls, dd, data, sl⟩, ho, hc, n, hd⟩, hs⟩ := I.tuple hT
  simp only at hc hd
  subst hc hd
  exact wpAny_binaryOp_repeat_ref (T := "tuple") (U := "int") (by decide) ⟨_, ho, rfl⟩ (fun s' => typeIs_int s' 1 t) noFill_tuple_mul F.fills_int_mul F.slot_int_rmul repeat_tuple F.slot_int_index.lookup
    (call_meets F.slot_int_rmul (typeIs_int s 1 t) F.entry_int_rmul (F.args_int_rmul_2 _ _) (int_rmul_tuple 1 t l its.toArray n dd sl)
      ⟨ho, rfl, ⟨_, ho, rfl⟩, call_meets F.slot_tuple_mul ⟨_, ho, rfl⟩ F.entry_tuple_mul (F.args_tuple_mul_2 _ _) (tuple_mul1 l its.toArray n dd sl t) ⟨ho, ⟨.ref l, H, I, rfl, q⟩⟩⟩)
theorem blt_lt {a b : Nat} (h : Nat.blt a b = true) : a < b := Nat.le_of_ble_eq_true h
theorem op_binD (o : BinO) : OpR X (binaryOp (bop o)) (rD2 X.K (binD o)) := by
  intro pins s σ H x y v u Q I rx ry ⟨A, dx, dy, d, dA, hx, hy, hf, q⟩
  cases o with
  | add =>
    cases dx <;> cases dy <;> simp only [binD] at hf <;> try (cases hf; done)
    · cases hf
      exact op_add pins s σ H x y v u Q I rx ry ⟨_, _, hx.i, hy.i, q.here (.ofI _)⟩
    · split at hf
      · rename_i hz
        cases hf
        exact op_add_str pins s σ H x y v u Q I rx ry ⟨_, _, hx.s, hy.s, hz, q.here (.ofS _)⟩
      · cases hf
    · split at hf
      · rename_i hz
        cases hf
        obtain ⟨a, xs, rfl, h1, z1, t1⟩ := hx.l
        obtain ⟨b, ys, rfl, h2, z2, t2⟩ := hy.l
        have hz' : xs.length + ys.length ≤ sizeLine := by rw [t1.length, t2.length]; exact hz
        exact op_catS pins s σ H _ _ v u Q I rx ry ⟨a, b, xs, ys, rfl, rfl, h1, h2, hz', fun p hp => q.lst dA hp (by rw [List.length_append]; exact hz') (t1.append t2)⟩
      · cases hf
    · split at hf
      · rename_i hz
        cases hf
        obtain ⟨a, xs, rfl, h1, z1, t1⟩ := hx.t
        obtain ⟨b, ys, rfl, h2, z2, t2⟩ := hy.t
        have hz' : xs.length + ys.length ≤ sizeLine := by rw [t1.length, t2.length]; exact hz
        refine op_catA pins s σ H _ _ v u Q I rx ry ⟨a, b, xs, ys, rfl, rfl, h1, h2, hz', fun e => ?_, fun e1 e2 => ?_, fun e1 e2 p hp => q.tup hp (by rw [List.length_append]; exact hz') (t1.append t2)⟩
        · subst e
          have e0 : (‹List PyData›) = ‹List PyData› := rfl
          refine q.here (.mkT h2 z2 ?_)
          have h3 := t1.append t2
          rw [List.nil_append] at h3
          exact h3
        · subst e2
          refine q.here (.mkT h1 z1 ?_)
          have h3 := t1.append t2
          rw [List.append_nil] at h3
          exact h3
      · cases hf
  | sub =>
    cases dx <;> cases dy <;> simp only [binD] at hf <;> try (cases hf; done)
    cases hf
    exact op_sub pins s σ H x y v u Q I rx ry ⟨_, _, hx.i, hy.i, q.here (.ofI _)⟩
  | mul =>
    cases dx <;> cases dy <;> simp only [binD] at hf <;> try (cases hf; done)
    · split at hf
      · rename_i hz
        cases hf
        exact op_mulW pins s σ H x y v u Q I rx ry ⟨_, _, hx.i, hy.i, blt_lt hz, q.here (.ofI _)⟩
      · cases hf
    · split at hf
      · rename_i ds k hz
        cases hf
        obtain ⟨h1, h2, h3, h4⟩ := hz
        obtain ⟨a, xs, rfl, g1, z1, t1⟩ := hx.t
        have hl : xs.length ≤ 1000 := by rw [t1.length]; exact h4
        have hne : xs ≠ [] := fun e => by
          subst e
          have := t1.length
          exact h1 (List.eq_nil_of_length_eq_zero this.symm)
        have ey := hy.i
        subst ey
        by_cases hk : k = 1
        · subst hk
          refine op_repT1 pins s σ H _ _ v u Q I rx ry ⟨a, xs, rfl, rfl, g1, q.here (.mkT g1 z1 ?_)⟩
          simpa using t1
        · refine op_repT pins s σ H _ _ v u Q I rx ry ⟨a, k, xs, rfl, rfl, g1, hne, by omega, h3, hl, fun p hp => q.tup hp ?_ (t1.rep _)⟩
          rw [PyProof.Rows.lm_len_rep_flat, sizeLine_eq]
          have a1 : k.toNat * xs.length ≤ 1000 * 1000 := Nat.mul_le_mul (by omega) hl
          omega
      · cases hf
  | fdiv =>
    cases dx <;> cases dy <;> simp only [binD] at hf <;> try (cases hf; done)
    split at hf
    · rename_i hz
      cases hf
      exact op_fdivW pins s σ H x y v u Q I rx ry ⟨_, _, hx.i, hy.i, hz, q.here (.ofI _)⟩
    · cases hf
  | mod =>
    cases dx <;> cases dy <;> simp only [binD] at hf <;> try (cases hf; done)
    split at hf
    · rename_i hz
      cases hf
      exact op_mod pins s σ H x y v u Q I rx ry ⟨_, _, hx.i, hy.i, hz, q.here (.ofI _)⟩
    · cases hf
  | pow =>
    cases dx <;> cases dy <;> simp only [binD] at hf <;> try (cases hf; done)
    split at hf
    · rename_i hz
      cases hf
      exact op_pow pins s σ H x y v u Q I rx ry ⟨_, _, hx.i, hy.i, hz, q.here (.ofI _)⟩
    · cases hf
/-! ### comparisons -/
def cop : CmpO → CmpOp
  | .eq => .Eq | .ne => .NotEq | .lt => .Lt | .le => .LtE | .gt => .Gt | .ge => .GtE | .isin => .In | .notin => .NotIn | .is => .Is | .isnot => .IsNot
/-- as rD2, of a truth value -/
def rB2 (K : PySem.W.Frag) (f : D → D → Option Bool) : R2 := fun x y H Q => ∃ A dx dy b, Di K H A dx x ∧ Di K H A dy y ∧ f dx dy = some b ∧ Q (.bl b) H
theorem isNoneD_eq {K : PySem.W.Frag} {H : Hp} {A : Addr → Prop} {d : D} {v : V} (h : Di K H A d v) : decide (v = V.non) = isNn d := by
  cases d with
  | none => rw [h.n]; rfl
  | bool b => rw [h.b]; rfl
  | int i => rw [h.i]; rfl
  | str x => rw [h.s]; rfl
  | list ds => obtain ⟨a, xs, rfl, _⟩ := h.l; rfl
  | tuple ds => obtain ⟨a, xs, rfl, _⟩ := h.t; rfl
  | dict _ => exact (Di.no h).elim
theorem op_cmpD (hu : X.A.units + 65 < cLine) (o : CmpO) : OpR X (compareOp (cop o)) (rB2 X.K (cmpD o)) := by
  have hu' : X.A.units + 64 < cLine := by omega
  intro pins s σ H x y v u Q I rx ry ⟨A, dx, dy, b, hx, hy, hf, q⟩
  have rdx := Dp.reads I dx x v hx.dp rx
  have rdy := Dp.reads I dy y u hy.dp ry
  cases o with
  | eq =>
    simp only [cmpD, eqD] at hf
    split at hf
    · rename_i hz
      obtain ⟨z1, z2⟩ := Bool.and_eq_true_iff.mp hz
      cases hf
      exact op_eqD hu' pins s σ H x y v u Q I rx ry ⟨dx, dy, hx.dp, hy.dp, z1, z2, q⟩
    · cases hf
  | ne =>
    simp only [cmpD, eqD] at hf
    split at hf
    · rename_i hz
      obtain ⟨z1, z2⟩ := Bool.and_eq_true_iff.mp hz
      cases hf
      exact op_neD hu' pins s σ H x y v u Q I rx ry ⟨dx, dy, hx.dp, hy.dp, z1, z2, q⟩
    · cases hf
  | lt =>
    cases dx <;> cases dy <;> simp only [cmpD] at hf <;> try (cases hf; done)
    cases hf
    exact op_lt pins s σ H x y v u Q I rx ry ⟨_, _, hx.i, hy.i, q⟩
  | le =>
    cases dx <;> cases dy <;> simp only [cmpD] at hf <;> try (cases hf; done)
    cases hf
    exact op_le pins s σ H x y v u Q I rx ry ⟨_, _, hx.i, hy.i, q⟩
  | gt =>
    cases dx <;> cases dy <;> simp only [cmpD] at hf <;> try (cases hf; done)
    cases hf
    exact op_gt pins s σ H x y v u Q I rx ry ⟨_, _, hx.i, hy.i, q⟩
  | ge =>
    cases dx <;> cases dy <;> simp only [cmpD] at hf <;> try (cases hf; done)
    cases hf
    exact op_ge pins s σ H x y v u Q I rx ry ⟨_, _, hx.i, hy.i, q⟩
  | isin =>
    simp only [cmpD] at hf
    cases dy <;> simp only [inD] at hf <;> try (cases hf; done)
    · cases dx <;> simp only at hf <;> try (cases hf; done)
      cases hf
      exact op_in_str pins s σ H x y v u Q I rx ry ⟨_, _, hx.s, hy.s, q⟩
    · split at hf
      · rename_i hz
        obtain ⟨z1, z2⟩ := Bool.and_eq_true_iff.mp hz
        cases hf
        obtain ⟨as, r1⟩ := rdx
        obtain ⟨bs, r2⟩ := rdy
        exact SeqAt.in_list_reads r2 r1 (SeqAt.canLay_of_shaped z2) (SeqAt.canLay_of_shaped z1) (room_in_shaped z1 hu) ⟨.bl _, H, I, rfl, q⟩
      · cases hf
    · split at hf
      · rename_i hz
        obtain ⟨z1, z2⟩ := Bool.and_eq_true_iff.mp hz
        cases hf
        obtain ⟨as, r1⟩ := rdx
        obtain ⟨bs, r2⟩ := rdy
        exact SeqAt.in_tuple_reads r2 r1 (SeqAt.canLay_of_shaped z2) (SeqAt.canLay_of_shaped z1) (room_in_shaped z1 hu) ⟨.bl _, H, I, rfl, q⟩
      · cases hf
  | notin =>
    simp only [cmpD] at hf
    cases dy <;> simp only [inD] at hf <;> try (cases hf; done)
    · cases dx <;> simp only at hf <;> try (cases hf; done)
      cases hf
      exact L2.op_notIn_str pins s σ H x y v u Q I rx ry ⟨_, _, hx.s, hy.s, q⟩
    · split at hf
      · rename_i hz
        obtain ⟨z1, z2⟩ := Bool.and_eq_true_iff.mp hz
        cases hf
        obtain ⟨as, r1⟩ := rdx
        obtain ⟨bs, r2⟩ := rdy
        exact SeqAt.notIn_list_reads r2 r1 (SeqAt.canLay_of_shaped z2) (SeqAt.canLay_of_shaped z1) (room_in_shaped z1 hu) ⟨.bl _, H, I, rfl, q⟩
      · cases hf
    · split at hf
      · rename_i hz
        obtain ⟨z1, z2⟩ := Bool.and_eq_true_iff.mp hz
        cases hf
        obtain ⟨as, r1⟩ := rdx
        obtain ⟨bs, r2⟩ := rdy
        exact SeqAt.notIn_tuple_reads r2 r1 (SeqAt.canLay_of_shaped z2) (SeqAt.canLay_of_shaped z1) (room_in_shaped z1 hu) ⟨.bl _, H, I, rfl, q⟩
      · cases hf
  | is =>
    simp only [cmpD] at hf
    cases dy with
    | none =>
      have hf' : isNn dx = b := by simpa only [isD, Option.some.injEq] using hf
      refine op_isN pins s σ H x y v u Q I rx ry ⟨hy.n, ?_⟩
      rw [isNoneD_eq hx, hf']
      exact q
    | bool c =>
      cases dx <;> simp only [isD] at hf <;> try (cases hf; done)
      cases hf
      exact op_isBl pins s σ H x y v u Q I rx ry ⟨_, _, hx.b, hy.b, q⟩
    | _ => cases dx <;> simp only [isD] at hf <;> cases hf
  | isnot =>
    simp only [cmpD] at hf
    cases dy with
    | none =>
      have hf' : (!isNn dx) = b := by simpa only [isD, Option.map_some, Option.some.injEq] using hf
      refine op_notN pins s σ H x y v u Q I rx ry ⟨hy.n, ?_⟩
      rw [isNoneD_eq hx, hf']
      exact q
    | bool c =>
      cases dx <;> simp only [isD] at hf <;> try (cases hf; done)
      cases hf
      exact op_notBl pins s σ H x y v u Q I rx ry ⟨_, _, hx.b, hy.b, q⟩
    | _ => cases dx <;> simp only [isD] at hf <;> cases hf
end
end PD
set_option linter.all false
set_option maxRecDepth 100000
set_option maxHeartbeats 1000000
/-! Subscripts, slices, built-ins, by data. -/
namespace PD
open PySem PySem.Spec PyProof.Rows L2
section
variable {X : Cx}
theorem ixD_eq (n : Nat) (i : Int) : ixN n i = ixD n i := rfl
theorem atI_get {K : PySem.W.Frag} {H : Hp} {A : Addr → Prop} {ds : List D} {xs : List V} {k : Int} {d : D} (t : DvAll K H A ds xs) (h : (ixD ds.length k).bind (fun j => ds[j]?) = some d) : ∃ v, atI xs k = some v ∧ Dv K H A d v := by
  obtain ⟨j, e1, e2⟩ := Option.bind_eq_some_iff.mp h
  obtain ⟨v, e3, h3⟩ := t.get e2
  refine ⟨v, ?_, h3⟩
  unfold atI
  rw [ixD_eq, t.length, e1]
  exact e3
theorem ix_D : IxR X (rD2 X.K itemD) := by
  intro value slice pins s σ H x y v u Q I rx ry ⟨A, dx, dy, d, dA, hx, hy, hf, q⟩ hs
  cases dx <;> cases dy <;> simp only [itemD] at hf <;> try (cases hf; done)
  · obtain ⟨a, xs, rfl, h1, z1, t1⟩ := hx.l
    obtain ⟨w, e, hw⟩ := atI_get t1 hf
    exact ix_list value slice pins s σ H _ y v u Q I rx ry ⟨a, xs, _, w, rfl, hy.i, h1, e, q.here hw⟩ hs
  · obtain ⟨a, xs, rfl, h1, z1, t1⟩ := hx.t
    obtain ⟨w, e, hw⟩ := atI_get t1 hf
    exact ix_tup value slice pins s σ H _ y v u Q I rx ry ⟨a, xs, _, w, rfl, hy.i, h1, e, q.here hw⟩ hs
theorem sIx_eq (n d : Nat) (o : Option Int) : HT.sIx n d o = cutAt n d o := by cases o <;> rfl
def rSlD (K : PySem.W.Frag) : V → Option Int → Option Int → Hp → VK → Prop := fun x lo hi H Q => ∃ A dx d, Dom A H ∧ Di K H A dx x ∧ sliceD dx lo hi = some d ∧ Out K A H d Q
theorem sl_D : SlR X (rSlD X.K) := by
  intro pins s σ H x v vl vu lo hi sl Q I rx hs pl pu ⟨A, dx, d, dA, hx, hf, q⟩
  cases dx <;> simp only [sliceD] at hf <;> try (cases hf; done)
  · split at hf
    · rename_i z hz
      cases hf
      refine sl_str pins s σ H x v vl vu lo hi sl Q I rx hs pl pu ⟨_, hx.s, hz, ?_⟩
      have e : cutS z lo hi = (⟨(cutL z.cps.toList lo hi).toArray⟩ : Str) := by
        unfold cutS cutL
        rw [sIx_eq, sIx_eq, Array.length_toList]
        rfl
      rw [e]
      exact q.here (.ofS _)
    · cases hf
  · cases hf
    obtain ⟨a, xs, rfl, h1, z1, t1⟩ := hx.l
    exact sl_list pins s σ H _ v vl vu lo hi sl Q I rx hs pl pu ⟨a, xs, rfl, h1, fun p hp => q.lst dA hp (Nat.le_trans (cutV_length _ _ _) z1) (t1.cut lo hi)⟩
  · cases hf
    obtain ⟨a, xs, rfl, h1, z1, t1⟩ := hx.t
    refine sl_tupA pins s σ H _ v vl vu lo hi sl Q I rx hs pl pu ⟨a, xs, rfl, h1, fun hw => ?_, fun _ p hp => q.tup hp (Nat.le_trans (cutV_length _ _ _) z1) (t1.cut lo hi)⟩
    refine q.here (.mkT h1 z1 ?_)
    have t2 := t1.cut lo hi
    have e : cutV xs lo hi = xs := by
      unfold cutV
      rw [hw.1, hw.2]
      simp
    rw [e] at t2
    exact t2
/-! ### built-ins of one value -/
/-- as rD1, of an argument list of one -/
def rC1 (K : PySem.W.Frag) (f : D → Option D) : List V → Hp → VK → Prop := fun vs H Q => ∃ x, vs = [x] ∧ rD1 K f x H Q
theorem call_lenD : CallR X (.builtin "len") (rC1 X.K (bltD .len)) := by
  intro pins s σ H vs us Q I r ⟨x, e, A, dx, d, dA, hx, hf, q⟩
  subst e
  cases dx <;> simp only [bltD] at hf <;> try (cases hf; done)
  · split at hf
    · rename_i hz
      cases hf
      exact call_len pins s σ H _ us Q I r ⟨x, _, rfl, by rw [hx.s]; exact ⟨hz, rfl⟩, q.here (.ofI _)⟩
    · cases hf
  · cases hf
    obtain ⟨a, xs, rfl, h1, z1, t1⟩ := hx.l
    exact call_len pins s σ H _ us Q I r ⟨_, _, rfl, .inl ⟨xs, h1, t1.length.symm⟩, q.here (.ofI _)⟩
  · cases hf
    obtain ⟨a, xs, rfl, h1, z1, t1⟩ := hx.t
    exact call_len pins s σ H _ us Q I r ⟨_, _, rfl, .inr ⟨xs, h1, t1.length.symm⟩, q.here (.ofI _)⟩
theorem call_absD : CallR X (.builtin "abs") (rC1 X.K (bltD .abs)) := by
  intro pins s σ H vs us Q I r ⟨x, e, A, dx, d, dA, hx, hf, q⟩
  subst e
  cases dx <;> simp only [bltD] at hf <;> try (cases hf; done)
  cases hf
  exact call_abs pins s σ H _ us Q I r ⟨_, by rw [hx.i], q.here (.ofI _)⟩
theorem call_intD : CallR X (.type "int") (rC1 X.K (bltD .int)) := by
  intro pins s σ H vs us Q I r ⟨x, e, A, dx, d, dA, hx, hf, q⟩
  subst e
  cases dx <;> simp only [bltD] at hf <;> try (cases hf; done)
  · cases hf
    exact call_int1 pins s σ H _ us Q I r (.inr ⟨_, by rw [hx.b], q.here (.ofI _)⟩)
  · cases hf
    exact call_int1 pins s σ H _ us Q I r (.inl ⟨_, by rw [hx.i], q.here (.ofI _)⟩)
  · split at hf
    · rename_i n hn
      split at hf
      · rename_i hz
        cases hf
        exact call_int_str pins s σ H _ us Q I r ⟨_, n, by rw [hx.s], hn, hz, q.here (.ofI _)⟩
      · cases hf
    · cases hf
theorem call_strD : CallR X (.type "str") (rC1 X.K (bltD .str)) := by
  intro pins s σ H vs us Q I r ⟨x, e, A, dx, d, dA, hx, hf, q⟩
  subst e
  cases dx <;> simp only [bltD] at hf <;> try (cases hf; done)
  split at hf
  · rename_i hz
    cases hf
    exact call_str_int pins s σ H _ us Q I r ⟨_, by rw [hx.i], hz, q.here (.ofS _)⟩
  · cases hf
theorem call_tupleD : CallR X (.type "tuple") (rC1 X.K (bltD .tuple)) := by
  intro pins s σ H vs us Q I r ⟨x, e, A, dx, d, dA, hx, hf, q⟩
  subst e
  cases dx <;> simp only [bltD] at hf <;> try (cases hf; done)
  · cases hf
    obtain ⟨a, xs, rfl, h1, z1, t1⟩ := hx.l
    exact call_tuple_of pins s σ H _ us Q I r ⟨a, xs, rfl, .inl ⟨h1, fun p hp => q.tup hp z1 t1⟩⟩
  · cases hf
    obtain ⟨a, xs, rfl, h1, z1, t1⟩ := hx.t
    exact call_tuple_of pins s σ H _ us Q I r ⟨a, xs, rfl, .inr ⟨h1, q.here (.mkT h1 z1 t1)⟩⟩
theorem call_listD : CallR X (.type "list") (rC1 X.K (bltD .list)) := by
  intro pins s σ H vs us Q I r ⟨x, e, A, dx, d, dA, hx, hf, q⟩
  subst e
  cases dx <;> simp only [bltD] at hf <;> try (cases hf; done)
  · cases hf
    obtain ⟨a, xs, rfl, h1, z1, t1⟩ := hx.l
    exact call_list_of pins s σ H _ us Q I r ⟨a, xs, rfl, .inl h1, fun p hp => q.lst dA hp z1 t1⟩
  · cases hf
    obtain ⟨a, xs, rfl, h1, z1, t1⟩ := hx.t
    exact call_list_of pins s σ H _ us Q I r ⟨a, xs, rfl, .inr h1, fun p hp => q.lst dA hp z1 t1⟩
theorem call_sumD (hc : X.calm = true) : CallR X (.builtin "sum") (rC1 X.K (bltD .sum)) := by
  intro pins s σ H vs us Q I r ⟨x, e, A, dx, d, dA, hx, hf, q⟩
  subst e
  cases dx <;> simp only [bltD] at hf <;> try (cases hf; done)
  obtain ⟨ns, e1, rfl⟩ := Option.map_eq_some_iff.mp hf
  obtain ⟨a, xs, rfl, h1, z1, t1⟩ := hx.l
  rw [t1.ints e1] at h1
  exact cr_sum hc pins s σ H _ us Q I r ⟨a, ns, rfl, h1, q.here (.ofI _)⟩
theorem call_anyD (hc : X.calm = true) : CallR X (.builtin "any") (rC1 X.K (bltD .any)) := by
  intro pins s σ H vs us Q I r ⟨x, e, A, dx, d, dA, hx, hf, q⟩
  subst e
  cases dx <;> simp only [bltD] at hf <;> try (cases hf; done)
  obtain ⟨ns, e1, rfl⟩ := Option.map_eq_some_iff.mp hf
  obtain ⟨a, xs, rfl, h1, z1, t1⟩ := hx.l
  rw [t1.bools e1] at h1
  exact cr_any hc pins s σ H _ us Q I r ⟨a, ns, rfl, h1, q.here (.ofB _)⟩
theorem call_allD (hc : X.calm = true) : CallR X (.builtin "all") (rC1 X.K (bltD .all)) := by
  intro pins s σ H vs us Q I r ⟨x, e, A, dx, d, dA, hx, hf, q⟩
  subst e
  cases dx <;> simp only [bltD] at hf <;> try (cases hf; done)
  obtain ⟨ns, e1, rfl⟩ := Option.map_eq_some_iff.mp hf
  obtain ⟨a, xs, rfl, h1, z1, t1⟩ := hx.l
  rw [t1.bools e1] at h1
  exact cr_all hc pins s σ H _ us Q I r ⟨a, ns, rfl, h1, q.here (.ofB _)⟩
theorem un_negD : UnR X (unaryOp .USub) (rD1 X.K (bltD .neg)) := by
  intro pins s σ H x v Q I rx ⟨A, dx, d, dA, hx, hf, q⟩
  cases dx <;> simp only [bltD] at hf <;> try (cases hf; done)
  cases hf
  exact un_neg pins s σ H x v Q I rx ⟨_, hx.i, q.here (.ofI _)⟩
/-! ### sorting -/
theorem insI_perm (x : Int) : ∀ ys, (insI x ys).Perm (x :: ys)
  | [] => .refl _
  | y :: r => by
    unfold insI
    split
    · exact .refl _
    · exact ((insI_perm x r).cons y).trans (.swap x y r)
theorem sortI_perm : ∀ xs, (sortI xs).Perm xs
  | [] => .refl _
  | x :: r => (insI_perm x (sortI r)).trans ((sortI_perm r).cons x)
theorem insI_le (x : Int) : ∀ ys : List Int, ys.Pairwise (· ≤ ·) → (insI x ys).Pairwise (· ≤ ·)
  | [], _ => by simp [insI]
  | y :: r, h => by
    unfold insI
    obtain ⟨h1, h2⟩ := List.pairwise_cons.mp h
    split
    · rename_i hxy
      refine List.pairwise_cons.mpr ⟨fun z hz => ?_, h⟩
      rcases List.mem_cons.mp hz with rfl | hz
      · exact hxy
      · exact Int.le_trans hxy (h1 z hz)
    · rename_i hxy
      refine List.pairwise_cons.mpr ⟨fun z hz => ?_, insI_le x r h2⟩
      rcases List.mem_cons.mp ((insI_perm x r).mem_iff.mp hz) with rfl | hz
      · omega
      · exact h1 z hz
theorem sortI_le : ∀ xs : List Int, (sortI xs).Pairwise (· ≤ ·)
  | [] => .nil
  | x :: r => insI_le x _ (sortI_le r)
theorem sorted_one : ∀ {xs ys : List Int}, xs.Perm ys → xs.Pairwise (· ≤ ·) → ys.Pairwise (· ≤ ·) → xs = ys
  | [], ys, p, _, _ => (List.nil_perm.mp p).symm ▸ rfl
  | x :: xs, [], p, _, _ => absurd p.symm (by simp)
  | x :: xs, y :: ys, p, h1, h2 => by
    obtain ⟨a1, a2⟩ := List.pairwise_cons.mp h1
    obtain ⟨b1, b2⟩ := List.pairwise_cons.mp h2
    have e : x = y := by
      have m1 : x ∈ y :: ys := p.mem_iff.mp List.mem_cons_self
      have m2 : y ∈ x :: xs := p.mem_iff.mpr List.mem_cons_self
      rcases List.mem_cons.mp m1 with e | m1
      · exact e
      · rcases List.mem_cons.mp m2 with e | m2
        · exact e.symm
        · have := a1 y m2
          have := b1 x m1
          omega
    subst e
    rw [sorted_one (List.Perm.cons_inv p) a2 b2]
theorem call_sortedD : CallR X (.builtin "sorted") (rC1 X.K (bltD .sorted)) := by
  intro pins s σ H vs us Q I r ⟨x, e, A, dx, d, dA, hx, hf, q⟩
  subst e
  cases dx <;> simp only [bltD, sortD] at hf <;> try (cases hf; done)
  obtain ⟨ns, e1, rfl⟩ := Option.map_eq_some_iff.mp hf
  obtain ⟨a, xs, rfl, h1, z1, t1⟩ := hx.l
  have ex := t1.ints e1
  rw [ex] at h1 z1
  rw [List.length_map] at z1
  refine cr_sortedI pins s σ H _ us Q I r ⟨a, ns, rfl, h1, fun ns' p hp hs hn => ?_⟩
  have e2 : ns' = sortI ns := sorted_one (hp.trans (sortI_perm ns).symm) hs (sortI_le ns)
  subst e2
  exact q.lst dA hn (by rw [List.length_map, (sortI_perm ns).length_eq]; exact z1) (.ofInts _)
theorem call_max2D (hc : X.calm = true) : CallR X (.builtin "max") (fun vs H Q => ∃ x y, vs = [x, y] ∧ rD2 X.K (blt2D .max) x y H Q) := by
  intro pins s σ H vs us Q I r ⟨x, y, e, A, dx, dy, d, dA, hx, hy, hf, q⟩
  subst e
  cases dx <;> cases dy <;> simp only [blt2D] at hf <;> try (cases hf; done)
  cases hf
  exact call_max2 hc pins s σ H _ us Q I r ⟨_, _, by rw [hx.i, hy.i], q.here (.ofI _)⟩
theorem call_min2D (hc : X.calm = true) : CallR X (.builtin "min") (fun vs H Q => ∃ x y, vs = [x, y] ∧ rD2 X.K (blt2D .min) x y H Q) := by
  intro pins s σ H vs us Q I r ⟨x, y, e, A, dx, dy, d, dA, hx, hy, hf, q⟩
  subst e
  cases dx <;> cases dy <;> simp only [blt2D] at hf <;> try (cases hf; done)
  cases hf
  exact call_min2 hc pins s σ H _ us Q I r ⟨_, _, by rw [hx.i, hy.i], q.here (.ofI _)⟩
/-! ### isinstance -/
def tyN : Ty → String
  | .int => "int" | .bool => "bool" | .str => "str" | .tuple => "tuple" | .list => "list"
theorem sqL_ty {K : PySem.W.Frag} {H : Hp} {a : Addr} {xs : List V} (h : SqL K H a xs) : TyX K H (.ref a) (.type "list") := by
  rcases h with (h | ⟨o, h⟩) | ⟨o, its, n, h, c, _⟩
  · exact .base (.lst h)
  · exact .base (.frz h)
  · exact .kList h c
theorem sqT_ty {K : PySem.W.Frag} {H : Hp} {a : Addr} {xs : List V} (h : SqT K H a xs) : TyX K H (.ref a) (.type "tuple") := by
  rcases h with (h | ⟨o, h⟩) | ⟨o, its, n, h, c, _⟩
  · exact .base (.tup h)
  · exact .fTuple h
  · exact .kTuple h c
def tyD : D → String
  | .none => "NoneType" | .bool _ => "bool" | .int _ => "int" | .str _ => "str" | .list _ => "list" | .tuple _ => "tuple" | .dict _ => "dict"
theorem dv_ty {K : PySem.W.Frag} {H : Hp} {A : Addr → Prop} {d : D} {v : V} (h : Di K H A d v) : TyX K H v (.type (tyD d)) := by
  cases d with
  | none => rw [h.n]; exact .base .non
  | bool b => rw [h.b]; exact .base (.bl b)
  | int i => rw [h.i]; exact .base (.int i)
  | str x => rw [h.s]; exact .base (.str x)
  | list ds => obtain ⟨a, xs, rfl, h1, _⟩ := h.l; exact sqL_ty h1
  | tuple ds => obtain ⟨a, xs, rfl, h1, _⟩ := h.t; exact sqT_ty h1
  | dict _ => exact (Di.no h).elim
def kitT : List (String × String × Bool) := ["NoneType", "bool", "int", "str", "list", "tuple"].flatMap fun a => ["int", "bool", "str", "tuple", "list"].map fun b => (a, b, (kitB a b).getD false)
theorem kit_all : (["NoneType", "bool", "int", "str", "list", "tuple"].all fun a => ["int", "bool", "str", "tuple", "list"].all fun b => decide (kitB a b = some (a == b || (a == "bool" && b == "int")))) = true := by decide +kernel
theorem isi_kit {K : PySem.W.Frag} {t : Ty} {d : D} {b : Bool} (h : isiD t d = some b) : PySem.W.kitOne K (.type (tyD d)) (.type (tyN t)) = some b := by
  have k := kit_all
  simp only [List.all_cons, List.all_nil, Bool.and_true, Bool.and_eq_true, decide_eq_true_eq] at k
  refine kit_ty ?_
  cases t <;> cases d <;> simp only [isiD] at h <;> (try (cases h; done)) <;> cases h <;> simp only [tyD, tyN, k] <;> rfl
theorem call_isiD (t : Ty) : CallR X (.builtin "isinstance") (fun vs H Q => ∃ x A dx b, vs = [x, .ty (tyN t)] ∧ Di X.K H A dx x ∧ isiD t dx = some b ∧ Q (.bl b) H) := by
  intro pins s σ H vs us Q I r ⟨x, A, dx, b, e, hx, hf, q⟩
  subst e
  exact call_isi pins s σ H _ us Q I r ⟨x, .ty (tyN t), .type (tyD dx), .type (tyN t), b, rfl, .ty _, dv_ty hx, isi_kit hf, q⟩
end
end PD
set_option linter.all false
set_option maxRecDepth 100000
set_option maxHeartbeats 1000000
/-! What holds of slots and heap while a body runs. -/
namespace PD
open PySem PySem.Spec PyProof.Rows L2
/-- from one heap to a later one: all stands but what M names, and the tables of code objects -/
structure Ext (T : List (Addr × Str)) (M : Addr → Prop) (H H' : Hp) : Prop where
  keep : ∀ a o, H a = some o → ¬ M a → (∀ ps, o ≠ .tbl ps) → H' a = some o
  tups : ∀ a xs, H a = some (.tup xs) → H' a = some (.tup xs)
  frzs : ∀ a o u, H a = some (.frz o u) → H' a = some (.frz o u)
  tabs : LamX.Tabs T H → LamX.Tabs T H'
section
variable {T : List (Addr × Str)} {M M' A : Addr → Prop} {H H1 H' : Hp} {K : PySem.W.Frag}
theorem Ext.refl : Ext T M H H := ⟨fun _ _ h _ _ => h, fun _ _ h => h, fun _ _ _ h => h, fun h => h⟩
theorem Ext.trans (a : Ext T M H H1) (b : Ext T M H1 H') : Ext T M H H' :=
  ⟨fun x o h n t => b.keep x o (a.keep x o h n t) n t, fun x xs h => b.tups x xs (a.tups x xs h), fun x o u h => b.frzs x o u (a.frzs x o u h), fun h => b.tabs (a.tabs h)⟩
theorem Ext.same (e : Same H H') : Ext T M H H' := ⟨fun x o h _ _ => e x o h, fun x xs h => e _ _ h, fun x o u h => e _ _ h, fun h => h.ext e⟩
theorem Ext.mono (e : Ext T M H H') (h : ∀ a, M a → M' a) : Ext T M' H H' := ⟨fun x o q n t => e.keep x o q (fun z => n (h x z)) t, e.tups, e.frzs, e.tabs⟩
theorem Ext.thru (e : Ext T M H H') (h : ∀ a, M a → A a) : Thru K H H' A A := by
  refine ⟨fun a xs q => ?_, fun a xs q => ?_⟩
  · rcases q with q | ⟨o, q⟩ | q
    · exact .inl ⟨e.keep a _ q.1 (fun z => q.2 (h a z)) (fun ps z => by cases z), q.2⟩
    · exact .inr (.inl ⟨o, e.frzs a o _ q⟩)
    · exact .inr (.inr q)
  · rcases q with (q | ⟨o, q⟩) | q
    · exact .inl (.inl (e.tups a _ q))
    · exact .inl (.inr ⟨o, e.frzs a o _ q⟩)
    · exact .inr q
end
/-- nothing but a table of code objects stands there -/
def Nw (H : Hp) (a : Addr) : Prop := ∀ o, H a = some o → ∃ ps, o = .tbl ps
theorem Nw.of {H : Hp} {a : Addr} (h : H a = none) : Nw H a := fun o q => by rw [h] at q; cases q
theorem Nw.no {H : Hp} {a : Addr} {o : HO} {p : Prop} (h : Nw H a) (q : H a = some o) (t : ∀ ps, o ≠ .tbl ps) : p := by
  obtain ⟨ps, z⟩ := h o q
  exact (t ps z).elim
/-- what stands fast while a body runs -/
structure Fx where
  K : PySem.W.Frag
  T : List (Addr × Str)
  H0 : Hp
  b0 : Option Addr
  A0 : Addr → Prop
  O : List Nat
  Γ : Tab
  cls : Nat → Addr
  kp : List (D × V)
abbrev Slots := L2.St
/-- a slot whose list is written -/
def Own (e : SEnv) (i : Nat) : Prop := e[i]? = some .bag ∨ ∃ ds, e[i]? = some (.own ds)
def Av (F : Fx) (σ : Slots) (e : SEnv) (a : Addr) : Prop := F.A0 a ∨ ∃ i : Nat, Own e i ∧ σ[i]? = some (some (.ref a))
def Bm (σ : Slots) (e : SEnv) (a : Addr) : Prop := ∃ i : Nat, e[i]? = some .bag ∧ σ[i]? = some (some (.ref a))
def Ab (F : Fx) (σ : Slots) (e : SEnv) (a : Addr) : Prop := F.A0 a ∨ Bm σ e a
def Pr (F : Fx) (σ : Slots) (e : SEnv) (b : Bool) (a : Addr) : Prop := match b with
  | true => Av F σ e a
  | false => Ab F σ e a
structure SI (F : Fx) (σ : Slots) (H : Hp) (e : SEnv) (B : Bg) : Prop where
  len : e.length = σ.length
  ext : Ext F.T (fun a => F.b0 = some a) F.H0 H
  tabs : LamX.Tabs F.T H
  dom' : Dom F.A0 H
  val : ∀ (i : Nat) (d : D), e[i]? = some (.val d) → ∃ v, σ[i]? = some (some v) ∧ Dv F.K H (Av F σ e) d v
  own : ∀ (i : Nat) (ds : List D), e[i]? = some (.own ds) → i ∈ F.O ∧ ∃ a xs, σ[i]? = some (some (.ref a)) ∧ H a = some (.lst xs) ∧ xs.length ≤ sizeLine ∧ DvAll F.K H (Av F σ e) ds xs ∧ Nw F.H0 a ∧ ¬ Ab F σ e a
  bag : ∀ i : Nat, e[i]? = some .bag → i ∈ F.O ∧ ∃ b, σ[i]? = some (some (.ref b)) ∧ H b = some (.lst (B.map V.int)) ∧ (F.b0 = some b ∨ Nw F.H0 b)
  inj : ∀ (i j : Nat) (a : Addr), Own e i → Own e j → σ[i]? = some (some (.ref a)) → σ[j]? = some (some (.ref a)) → i = j
  one : ∀ (i j : Nat), e[i]? = some .bag → e[j]? = some .bag → i = j
  b0 : ∀ b, F.b0 = some b → ∃ i : Nat, e[i]? = some .bag ∧ σ[i]? = some (some (.ref b))
  kp : ∀ p ∈ F.kp, Dj F.K H (Av F σ e) (Av F σ e) p.1 p.2
section
variable {F : Fx} {σ : Slots} {H H1 H2 H' : Hp} {e : SEnv} {B B1 B2 B' : Bg}
theorem Bm.av {a : Addr} (h : Bm σ e a) : Av F σ e a := by
  obtain ⟨i, h1, h2⟩ := h
  exact .inr ⟨i, .inl h1, h2⟩
theorem Ab.av {a : Addr} (h : Ab F σ e a) : Av F σ e a := h.elim .inl (fun h => h.av)
theorem Pr.av {b : Bool} {a : Addr} (h : Pr F σ e b a) : Av F σ e a := by
  cases b
  · exact Ab.av h
  · exact h
theorem Ab.pr {b : Bool} {a : Addr} (h : Ab F σ e a) : Pr F σ e b a := by
  cases b
  · exact h
  · exact h.av
theorem Bm.pr {b : Bool} {a : Addr} (h : Bm σ e a) : Pr F σ e b a := Ab.pr (.inr h)
theorem Pr.le {b c : Bool} (h : b = true → c = true) {a : Addr} (q : Pr F σ e b a) : Pr F σ e c a := by
  cases b
  · exact Ab.pr q
  · rw [h rfl]; exact q
theorem SI.domA (I : SI F σ H e B) : Dom (Av F σ e) H := fun a h => by
  rcases h with h | ⟨i, h1, h2⟩
  · exact I.dom' a h
  · rcases h1 with h1 | ⟨ds, h1⟩
    · obtain ⟨_, b, e1, e2, _⟩ := I.bag i h1
      rw [h2] at e1; cases e1
      exact ⟨_, e2, fun ps z => by cases z⟩
    · obtain ⟨_, b, xs, e1, e2, _⟩ := I.own i ds h1
      rw [h2] at e1; cases e1
      exact ⟨_, e2, fun ps z => by cases z⟩
theorem SI.domP (I : SI F σ H e B) (b : Bool) : Dom (Pr F σ e b) H := fun a h => I.domA a h.av
/-- on to a later heap, the bag being B' there -/
structure Go (F : Fx) (σ : Slots) (H : Hp) (e : SEnv) (B' : Bg) (H' : Hp) : Prop where
  ext : Ext F.T (Bm σ e) H H'
  bag : ∀ (i : Nat) (b : Addr), e[i]? = some .bag → σ[i]? = some (some (.ref b)) → H' b = some (.lst (B'.map V.int))
theorem SI.here (I : SI F σ H e B) : Go F σ H e B H := ⟨.refl, fun i b h1 h2 => by
  obtain ⟨_, b', e1, e2, _⟩ := I.bag i h1
  rw [h2] at e1; cases e1
  exact e2⟩
theorem Go.trans (a : Go F σ H e B1 H1) (b : Go F σ H1 e B2 H2) : Go F σ H e B2 H2 := ⟨a.ext.trans b.ext, b.bag⟩
theorem Go.same (a : Go F σ H e B1 H1) (b : Same H1 H2) : Go F σ H e B1 H2 := ⟨a.ext.trans (.same b), fun i x h1 h2 => b _ _ (a.bag i x h1 h2)⟩
theorem Go.thru {b : Bool} (g : Go F σ H e B' H') : Thru F.K H H' (Pr F σ e b) (Pr F σ e b) := g.ext.thru fun _ h => h.pr
theorem Go.dv {b : Bool} {d : D} {v : V} (g : Go F σ H e B' H') (h : Dv F.K H (Pr F σ e b) d v) : Dv F.K H' (Pr F σ e b) d v := Dv.thru g.thru d h
theorem SI.noBm (I : SI F σ H e B) {a : Addr} {o : HO} (h : F.H0 a = some o) (n : ¬ F.b0 = some a) (t : ∀ ps, o ≠ .tbl ps) : ¬ Bm σ e a := fun ⟨i, h1, h2⟩ => by
  obtain ⟨_, b, e1, _, e3⟩ := I.bag i h1
  rw [h2] at e1; cases e1
  rcases e3 with e3 | e3
  · exact n e3
  · exact e3.no h t
theorem SI.step (I : SI F σ H e B) (g : Go F σ H e B' H') : SI F σ H' e B' := by
  have th : Thru F.K H H' (Av F σ e) (Av F σ e) := g.ext.thru fun _ h => h.av
  refine ⟨I.len, ⟨fun a o h n t => g.ext.keep a o (I.ext.keep a o h n t) (I.noBm h n t) t, fun a xs h => g.ext.tups a xs (I.ext.tups a xs h), fun a o u h => g.ext.frzs a o u (I.ext.frzs a o u h), fun h => g.ext.tabs (I.ext.tabs h)⟩, g.ext.tabs I.tabs, fun a h => ?_, fun i d h => ?_, fun i ds h => ?_, fun i h => ?_, I.inj, I.one, I.b0, fun p hp => (I.kp p hp).thru th th⟩
  · obtain ⟨o, q, ht⟩ := I.dom' a h
    by_cases hb : Bm σ e a
    · obtain ⟨i, h1, h2⟩ := hb
      exact ⟨_, g.bag i a h1 h2, fun ps z => by cases z⟩
    · exact ⟨o, g.ext.keep a o q hb ht, ht⟩
  · obtain ⟨v, e1, h1⟩ := I.val i d h
    exact ⟨v, e1, Dv.thru th d h1⟩
  · obtain ⟨h0, a, xs, e1, e2, e3, e4, e5, e6⟩ := I.own i ds h
    exact ⟨h0, a, xs, e1, g.ext.keep a _ e2 (fun z => e6 (.inr z)) (fun ps z => by cases z), e3, DvAll.thru th ds e4, e5, e6⟩
  · obtain ⟨h0, b, e1, e2, e3⟩ := I.bag i h
    exact ⟨h0, b, e1, g.bag i b h e1, e3⟩
/-- what is not in the heap now was not there at the start -/
theorem SI.nw (I : SI F σ H e B) {a : Addr} (h : Nw H a) : Nw F.H0 a := fun o q => Classical.byContradiction fun t => by
  have t' : ∀ ps, o ≠ .tbl ps := fun ps z => t ⟨ps, z⟩
  by_cases hb : F.b0 = some a
  · obtain ⟨i, h1, h2⟩ := I.b0 a hb
    obtain ⟨_, b, e1, e2, _⟩ := I.bag i h1
    rw [h2] at e1; cases e1
    exact h.no e2 (fun ps z => by cases z)
  · exact h.no (I.ext.keep a o q hb t') t'
theorem SI.nAv (I : SI F σ H e B) {a : Addr} (h : Nw H a) : ¬ Av F σ e a := fun q => by
  obtain ⟨o, h1, h2⟩ := I.domA a q
  exact h.no h1 h2
end
end PD
set_option linter.all false
set_option maxRecDepth 100000
set_option maxHeartbeats 1000000
/-! Readings that say what the evaluator says. -/
namespace PD
open PySem PySem.Spec PyProof.Rows L2
/-- behind a piece of work: what it gives, in a heap that has come on; W: the errors that may leave -/
def After {α : Type} (F : Fx) (W : Nat → Hp → Prop) (σ : Slots) (H : Hp) (e : SEnv) (r : M α) (P : α → Bg → Hp → Prop) : Prop := match r with
  | .ok (a, B') => ∀ H', Go F σ H e B' H' → P a B' H'
  | .err c => ∀ H', Ext F.T (Bm σ e) H H' → W c H'
  | .stuck => False
mutual
/-- whether a value bears no list that is written -/
def sf (O : List Nat) : ME → Bool
  | .var i => !O.contains i
  | .tup es => sfs O es
  | .lst es => sfs O es
  | .bin _ a b => ss O a && ss O b
  | .ite _ a b => sf O a && sf O b
  | .ix a _ => ss O a
  | .sl a _ _ => ss O a
  | .call _ es => sfs O es
  | .callb _ _ es => sfs O es
  | .blt _ a => ss O a
  | .blt2 _ a b => ss O a && ss O b
  | .comp elt _ _ _ _ => sf O elt
  | .ltold e => sf O e
  | .lrep es _ => sfs O es
  | _ => true
/-- .. whether its items don't -/
def ss (O : List Nat) : ME → Bool
  | .var _ => true
  | .tup es => sfs O es
  | .lst es => sfs O es
  | .bin _ a b => ss O a && ss O b
  | .ite _ a b => sf O a && sf O b
  | .ix a _ => ss O a
  | .sl a _ _ => ss O a
  | .call _ es => sfs O es
  | .callb _ _ es => sfs O es
  | .blt _ a => ss O a
  | .blt2 _ a b => ss O a && ss O b
  | .comp elt _ _ _ _ => sf O elt
  | .ltold e => sf O e
  | .lrep es _ => sfs O es
  | _ => true
def sfs (O : List Nat) : MEs → Bool
  | .nil => true
  | .cons e r => sf O e && sfs O r
end
structure Rs (F : Fx) (m : ME) (σ : Slots) (e : SEnv) (H : Hp) (d : D) (v : V) : Prop where
  dv : Dv F.K H (Pr F σ e (sf F.O m)) d v
  dj : Dj F.K H (Pr F σ e (sf F.O m)) (Pr F σ e (ss F.O m)) d v
section
variable {F : Fx} {W : Nat → Hp → Prop} {σ : Slots} {H H1 H2 H' : Hp} {e : SEnv} {B B1 B2 B' : Bg} {α β : Type}
theorem After.bind {x : M α} {f : α → Bg → M β} {P : β → Bg → Hp → Prop} (h : After F W σ H e (x.bind f) P) : After F W σ H e x fun a B1 H1 => After F W σ H1 e (f a B1) P := by
  cases x with
  | stuck => exact h
  | err c => exact h
  | ok p =>
    obtain ⟨a, B1⟩ := p
    intro H1 g
    have h : After F W σ H e (f a B1) P := h
    show After F W σ H1 e (f a B1) P
    cases q : f a B1 with
    | stuck => rw [q] at h; exact h
    | err c => rw [q] at h; exact fun H' x => h H' (g.ext.trans x)
    | ok p2 =>
      obtain ⟨b, B2⟩ := p2
      rw [q] at h
      intro H2 g2
      exact h H2 (g.trans g2)
theorem After.imp {r : M α} {P P' : α → Bg → Hp → Prop} (h : After F W σ H e r P) (k : ∀ a B' H', Go F σ H e B' H' → P a B' H' → P' a B' H') : After F W σ H e r P' := by
  cases r with
  | stuck => exact h
  | err c => exact h
  | ok p => exact fun H' g => k _ _ H' g (h H' g)
theorem After.bools {x : M D} {f : Bool → Bg → M β} {P : β → Bg → Hp → Prop} (h : After F W σ H e (boolM x f) P) : After F W σ H e x fun d B1 H1 => ∃ b, d = .bool b ∧ After F W σ H1 e (f b B1) P :=
  (After.bind h).imp fun d B1 H1 _ q => by
    cases d with
    | bool b => exact ⟨b, rfl, q⟩
    | _ => exact False.elim q
theorem After.ofO {o : Option α} {P : α → Bg → Hp → Prop} (h : After F W σ H e (ofO B o) P) : ∃ a, o = some a ∧ ∀ H', Go F σ H e B H' → P a B H' := by
  cases o with
  | none => exact h.elim
  | some a => exact ⟨a, rfl, h⟩
theorem After.optB {o : Option Bool} {P : D → Bg → Hp → Prop} (h : After F W σ H e (optB B o) P) : ∃ b, o = some b ∧ ∀ H', Go F σ H e B H' → P (.bool b) B H' := by
  cases o with
  | none => exact h.elim
  | some a => exact ⟨a, rfl, h⟩
theorem Dv.dj2 {d : D} {v : V} {A A0 : Addr → Prop} (h : ∀ A, Dv F.K H A d v) : Dj F.K H A0 A d v := (h (fun x => A x ∨ A0 x)).dj (A := fun x => A x ∨ A0 x) (A0 := A0) (fun _ q => .inr q) |>.thru (.less fun _ q => q) (.less fun _ q => .inl q)
theorem Rs.mk' {m : ME} {d : D} {v : V} {b : Bool} (e1 : sf F.O m = b) (e2 : ss F.O m = b) (h : Dv F.K H (Pr F σ e b) d v) : Rs F m σ e H d v := ⟨by rw [e1]; exact h, by rw [e1, e2]; exact h.dj fun _ q => q⟩
theorem Rs.go {m : ME} {d : D} {v : V} (g : Go F σ H e B' H') (h : Rs F m σ e H d v) : Rs F m σ e H' d v := by
  exact ⟨g.dv h.dv, h.dj.thru g.thru g.thru⟩
theorem Rs.di {m : ME} {d : D} {v : V} (h : Rs F m σ e H d v) : Di F.K H (Pr F σ e (ss F.O m)) d v := h.dj.di
theorem Rs.ofV {m : ME} {d : D} {v : V} (h : ∀ A, Dv F.K H A d v) : Rs F m σ e H d v := ⟨h _, Dv.dj2 h⟩
theorem Rs.bl {m : ME} {b : Bool} : Rs F m σ e H (.bool b) (.bl b) := .ofV fun _ => .ofB b
theorem Rs.ar {m : ME} {d : D} {v : V} {b : Bool} (h : Rs F m σ e H d v) (hb : b = true → ss F.O m = true) : Di F.K H (Pr F σ e b) d v := h.di.less fun a q => q.le hb
/-- a def's own wishes: an expression's reading, a test's, an argument list's -/
def tD (F : Fx) (W : Nat → Hp → Prop) (m : ME) : TE := fun σ H Q => ∃ e B, SI F σ H e B ∧ After F W σ H e (ev F.Γ m e B) fun d _ H' => ∀ v, Rs F m σ e H' d v → Q v H'
def tT (F : Fx) (W : Nat → Hp → Prop) (m : ME) : TT := fun σ H Q => ∃ e B, SI F σ H e B ∧ After F W σ H e (ev F.Γ m e B) fun d _ H' => ∃ b, d = .bool b ∧ Q b H'
def tA (F : Fx) (W : Nat → Hp → Prop) (ms : MEs) : TA := fun σ H Q => ∃ e B, SI F σ H e B ∧ After F W σ H e (evs F.Γ ms e B) fun ds _ H' => ∀ vs, DvAll F.K H' (Pr F σ e (sfs F.O ms)) ds vs → Q vs H'
theorem un_of {m ma : ME} {g : SEnv → D → Bg → M D} {r : V → Hp → VK → Prop} {Q : VK} (h : tD F W m σ H Q) (he : ∀ e B, ev F.Γ m e B = (ev F.Γ ma e B).bind (g e))
    (k : ∀ e B1 H1 d v, SI F σ H1 e B1 → Rs F ma σ e H1 d v → (After F W σ H1 e (g e d B1) fun d' _ H' => ∀ v', Rs F m σ e H' d' v' → Q v' H') → r v H1 Q) : tD F W ma σ H fun v H1 => r v H1 Q := by
  obtain ⟨e, B, I, A⟩ := h
  rw [he] at A
  exact ⟨e, B, I, A.bind.imp fun d B1 H1 go hh v hv => k e B1 H1 d v (I.step go) hv hh⟩
theorem bin_of {m ma mb : ME} {g : D → D → Bg → M D} {r : V → V → Hp → VK → Prop} {Q : VK} (h : tD F W m σ H Q) (he : ∀ e B, ev F.Γ m e B = (ev F.Γ ma e B).bind fun x B1 => (ev F.Γ mb e B1).bind (g x))
    (k : ∀ e B2 H2 x y v w, SI F σ H2 e B2 → Rs F ma σ e H2 x v → Rs F mb σ e H2 y w → (After F W σ H2 e (g x y B2) fun d' _ H' => ∀ v', Rs F m σ e H' d' v' → Q v' H') → r v w H2 Q) :
    tD F W ma σ H fun v H1 => tD F W mb σ H1 fun w H2 => r v w H2 Q :=
  un_of (g := fun e x B1 => (ev F.Γ mb e B1).bind (g x)) (r := fun v H1 Q => tD F W mb σ H1 fun w H2 => r v w H2 Q) h he fun e B1 H1 x v I1 hv hh => ⟨e, B1, I1, hh.bind.imp fun y B2 H2 go h2 w hw => k e B2 H2 x y v w (I1.step go) (hv.go go) hw h2⟩
theorem out_of {m : ME} {d : D} {Q : VK} {b : Bool} (I : SI F σ H e B) (e1 : sf F.O m = b) (e2 : ss F.O m = b) (h : ∀ H', Go F σ H e B H' → ∀ v, Rs F m σ e H' d v → Q v H') : Out F.K (Pr F σ e b) H d Q :=
  fun v H' s hv => h H' (I.here.same s) v (.mk' e1 e2 hv)
theorem bl_of {m : ME} {c : Bool} {Q : VK} (I : SI F σ H e B) (h : ∀ H', Go F σ H e B H' → ∀ v, Rs F m σ e H' (.bool c) v → Q v H') : Q (.bl c) H := h H I.here _ .bl
end
theorem _root_.L2.PE.imp {X : Cx} {e : Expr} {t t' : TE} (h : PE X e t) (k : ∀ σ H Q, t' σ H Q → t σ H Q) : PE X e t' := ⟨fun pins s σ H Q I q => h.run pins s σ H Q I (k σ H Q q)⟩
theorem _root_.L2.PT.imp {X : Cx} {e : Expr} {t t' : TT} (h : PT X e t) (k : ∀ σ H Q, t' σ H Q → t σ H Q) : PT X e t' := ⟨fun pins s σ H Q I q => h.run pins s σ H Q I (k σ H Q q)⟩
theorem _root_.L2.PW.imp {X : Cx} {e : Expr} {t t' : TT} (h : PW X e t) (k : ∀ σ H Q, t' σ H Q → t σ H Q) : PW X e t' := ⟨fun wh pins s σ H Q I q => h.run wh pins s σ H Q I (k σ H Q q)⟩
theorem _root_.L2.PA.imp {X : Cx} {e : List Expr} {t t' : TA} (h : PA X e t) (k : ∀ σ H Q, t' σ H Q → t σ H Q) : PA X e t' := ⟨fun p pins s σ H Q I q => h.run p pins s σ H Q I (k σ H Q q)⟩
theorem _root_.L2.PS.imp {X : Cx} {e : Stmt} {t t' : TS} (h : PS X e t) (k : ∀ D σ H, t' D σ H → t D σ H) : PS X e t' := ⟨fun pins s σ H Q I q => h.run pins s σ H Q I (k Q σ H q)⟩
theorem _root_.L2.PSs.imp {X : Cx} {e : List Stmt} {t t' : TS} (h : PSs X e t) (k : ∀ D σ H, t' D σ H → t D σ H) : PSs X e t' := ⟨fun pins s σ H Q I q => h.run pins s σ H Q I (k Q σ H q)⟩
/-! ### a construct, its rule -/
section
variable {X : Cx} {F : Fx} {W : Nat → Hp → Prop} {pos : Pos} {a b c : Expr} {ma mb mc : ME}
theorem d_var {i : Nat} {x : Str} (hN : X.N[i]? = some x) (hv : Vis X.env.scope x) (hd : (x == ("__debug__" : Str)) = false) (hcd : (x == ("__classdict__" : Str)) = false) : PE X (.Name x pos) (tD F W (.var i)) := by
  refine (pe_var hN hv hd hcd).imp fun σ H Q ⟨e, B, I, A⟩ => ?_
  simp only [ev] at A
  obtain ⟨d, hd, h⟩ := A.ofO
  unfold getV at hd
  split at hd
  · rename_i d' he
    cases hd
    obtain ⟨v, e1, h1⟩ := I.val i d he
    refine ⟨v, e1, h H I.here v ⟨h1.less fun a q => q.av, (h1.dj fun a q => q.av).thru (.less fun a q => q) (.less fun a q => q.av)⟩⟩
  · rename_i ds he
    cases hd
    obtain ⟨hO, a, xs, e1, e2, z, t, h0, nb⟩ := I.own i ds he
    have es : sf F.O (.var i) = false := by simp [sf, hO]
    refine ⟨_, e1, h H I.here _ ⟨?_, ?_⟩⟩
    · rw [es]
      exact .mkL (SqL.of e2) nb z (t.less fun a q => q.av)
    · rw [es]
      exact ⟨a, xs, rfl, .inl ⟨e2, nb⟩, z, t⟩
  · cases hd
theorem d_con {d : D} {v : V} (h : PE X a (tC v)) (hd : ∀ H A, Dv F.K H A d v) : PE X a (tD F W (.con d)) :=
  h.imp fun σ H Q ⟨e, B, I, A⟩ => A H I.here v (.ofV fun A => hd _ A)
theorem d_gcon {g : Nat} {v : V} (h : PE X a (tC v)) (hd : ∀ H A, Dv F.K H A (F.Γ.gc g) v) : PE X a (tD F W (.gcon g)) :=
  h.imp fun σ H Q ⟨e, B, I, A⟩ => A H I.here v (.ofV fun A => hd _ A)
theorem d_nil : PA X [] (tA F W .nil) := pa_nil.imp fun σ H Q ⟨e, B, I, A⟩ => A H I.here [] .nil
theorem d_cons {es : List Expr} {ms : MEs} (ha : PE X a (tD F W ma)) (hr : PA X es (tA F W ms)) (hs : starEach (a :: es) X.env = (false, eval a X.env) :: starEach es X.env) : PA X (a :: es) (tA F W (.cons ma ms)) := by
  refine (pa_cons ha hr hs).imp fun σ H Q ⟨e, B, I, A⟩ => ?_
  simp only [evs] at A
  refine ⟨e, B, I, A.bind.imp fun d B1 H1 g1 h1 v hv => ?_⟩
  refine ⟨e, B1, I.step g1, h1.bind.imp fun ds B2 H2 g2 h2 vs hvs => ?_⟩
  refine h2 H2 ((I.step g1).step g2).here (v :: vs) (.cons ?_ (hvs.less fun a q => q.le ?_))
  · refine (hv.go g2).dv.less fun a q => q.le ?_
    simp only [sfs, Bool.and_eq_true]; exact fun h => h.1
  · simp only [sfs, Bool.and_eq_true]; exact fun h => h.2
theorem d_tup {es : List Expr} {ms : MEs} {k : Nat} (h : PA X es (tA F W ms)) (hl : es.length ≤ 1000) (hn : ∀ e B ds B', evs F.Γ ms e B = .ok (ds, B') → ds.length ≤ 1000) : PE X (.Tuple es k pos) (tD F W (.tup ms)) := by
  refine (pe_tup h).imp fun σ H Q ⟨e, B, I, A⟩ => ?_
  simp only [ev] at A
  refine ⟨e, B, I, ?_⟩
  have A' := A.bind
  cases q : evs F.Γ ms e B with
  | stuck => rw [q] at A'; exact A'
  | err c => rw [q] at A'; exact A'
  | ok p =>
    obtain ⟨ds, B1⟩ := p
    rw [q] at A'
    intro H1 g1 vs hvs
    have hl2 : vs.length ≤ sizeLine := by rw [hvs.length, sizeLine_eq]; have := hn e B ds B1 q; omega
    refine ⟨hl2, fun p hp => ?_⟩
    exact (out_of (m := .tup ms) (b := sfs F.O ms) (I.step g1) (by simp only [sf]) (by simp only [ss]) (A' H1 g1)).tup hp hl2 hvs
theorem d_lst {es : List Expr} {ms : MEs} (h : PA X es (tA F W ms)) (hn : ∀ e B ds B', evs F.Γ ms e B = .ok (ds, B') → ds.length ≤ 1000) : PE X (.List es pos) (tD F W (.lst ms)) := by
  refine (pe_lst h).imp fun σ H Q ⟨e, B, I, A⟩ => ?_
  simp only [ev] at A
  refine ⟨e, B, I, ?_⟩
  have A' := A.bind
  cases q : evs F.Γ ms e B with
  | stuck => rw [q] at A'; exact A'
  | err c => rw [q] at A'; exact A'
  | ok p =>
    obtain ⟨ds, B1⟩ := p
    rw [q] at A'
    intro H1 g1 vs hvs
    have hl2 : vs.length ≤ sizeLine := by rw [hvs.length, sizeLine_eq]; have := hn e B ds B1 q; omega
    refine ⟨hl2, fun p hp => ?_⟩
    exact (out_of (m := .lst ms) (b := sfs F.O ms) (I.step g1) (by simp only [sf]) (by simp only [ss]) (A' H1 g1)).lst ((I.step g1).domP _) hp hl2 hvs
theorem d_bin {o : BinO} (hK : X.K = F.K) (ha : PE X a (tD F W ma)) (hb : PE X b (tD F W mb)) : PE X (.BinOp a (bop o) b pos) (tD F W (.bin o ma mb)) := by
  refine (pe_op (op_binD o) ha hb).imp fun σ H Q h => ?_
  refine bin_of (g := fun x y B => ofO B (binD o x y)) (r := rD2 X.K (binD o)) h (fun e B => by simp only [ev]) fun e B2 H2 x y v w I hv hw hh => ?_
  obtain ⟨d, hd, h⟩ := hh.ofO
  have hbb : ∀ z : Bool, (ss F.O ma && ss F.O mb) = true → ss F.O ma = true ∧ ss F.O mb = true := fun _ h => by simpa using h
  refine ⟨Pr F σ e (ss F.O ma && ss F.O mb), x, y, d, I.domP _, ?_, ?_, hd, ?_⟩
  · rw [hK]; exact hv.ar fun h => (hbb true h).1
  · rw [hK]; exact hw.ar fun h => (hbb true h).2
  · rw [hK]; exact out_of I (by simp only [sf]) (by simp only [ss]) h
theorem d_cmp {o : CmpO} (hK : X.K = F.K) (hu : X.A.units + 65 < cLine) (ha : PE X a (tD F W ma)) (hb : PE X b (tD F W mb)) (hm : behindInMarks (cop o) b = false) : PE X (.Compare a [cop o] [b] pos) (tD F W (.cmp o ma mb)) := by
  refine (pe_cmpR (op_cmpD hu o) ha hb hm).imp fun σ H Q h => ?_
  refine bin_of (g := fun x y B => optB B (cmpD o x y)) (r := rB2 X.K (cmpD o)) h (fun e B => by simp only [ev]) fun e B2 H2 x y v w I hv hw hh => ?_
  obtain ⟨c, hc, h⟩ := hh.optB
  refine ⟨Pr F σ e (ss F.O ma && ss F.O mb), x, y, c, ?_, ?_, hc, bl_of I h⟩
  · rw [hK]; exact hv.ar fun h => by simp at h; exact h.1
  · rw [hK]; exact hw.ar fun h => by simp at h; exact h.2
end
end PD
set_option linter.all false
set_option maxRecDepth 100000
set_option maxHeartbeats 1000000
/-! Readings that say what the evaluator says: the rest of the expressions but comprehensions. -/
namespace PD
open PySem PySem.Spec PyProof.Rows L2
section
variable {X : Cx} {F : Fx} {W : Nat → Hp → Prop} {pos : Pos} {a b c : Expr} {ma mb mc m : ME} {σ : Slots} {H : Hp}
theorem tT_tD {Q : Bool → Hp → Prop} (h : tT F W m σ H Q) : tD F W m σ H fun x H' => ∃ k, x = .bl k ∧ Q k H' := by
  obtain ⟨e, B, I, A⟩ := h
  refine ⟨e, B, I, A.imp fun d B' H' g ⟨k, hk, q⟩ v hv => ⟨k, ?_, q⟩⟩
  subst hk
  exact hv.dv.b
theorem tD_tT {Q : VK} (h : tD F W m σ H Q) (hb : ∀ e B d B', ev F.Γ m e B = .ok (d, B') → ∃ k, d = .bool k) : tT F W m σ H fun k H' => Q (.bl k) H' := by
  obtain ⟨e, B, I, A⟩ := h
  refine ⟨e, B, I, ?_⟩
  cases q : ev F.Γ m e B with
  | stuck => rw [q] at A; exact A
  | err c => rw [q] at A; exact A
  | ok p =>
    obtain ⟨d, B'⟩ := p
    rw [q] at A
    obtain ⟨k, rfl⟩ := hb e B d B' q
    exact fun H' g => ⟨k, rfl, A H' g _ .bl⟩
theorem dT_val (h : PE X a (tD F W m)) (he : ∀ whole, isTrue a X.env whole = (do let v ← whole; standAt a.pos; holding [v] (truthy v))) : PT X a (tT F W m) :=
  (pt_val h he).imp fun σ H Q h => tT_tD h
theorem r_cmp {o : CmpO} {K : PySem.W.Frag} (hK : K = F.K) {Q : VK} (h : tD F W (.cmp o ma mb) σ H Q) : tOp (rB2 K (cmpD o)) (tD F W ma) (tD F W mb) σ H Q := by
  refine bin_of (g := fun x y B => optB B (cmpD o x y)) (r := rB2 K (cmpD o)) h (fun e B => by simp only [ev]) fun e B2 H2 x y v w I hv hw hh => ?_
  obtain ⟨c, hc, h⟩ := hh.optB
  refine ⟨Pr F σ e (ss F.O ma && ss F.O mb), x, y, c, ?_, ?_, hc, bl_of I h⟩
  · rw [hK]; exact hv.ar fun h => by simp at h; exact h.1
  · rw [hK]; exact hw.ar fun h => by simp at h; exact h.2
theorem dT_cmp {o : CmpO} (hK : X.K = F.K) (hu : X.A.units + 65 < cLine) (ha : PE X a (tD F W ma)) (hb : PE X b (tD F W mb)) (hm : behindInMarks (cop o) b = false) : PT X (.Compare a [cop o] [b] pos) (tT F W (.cmp o ma mb)) :=
  (pt_cmpR (op_cmpD hu o) ha hb hm).imp fun σ H Q h => r_cmp hK (tT_tD h)
theorem r_chain {o o' : CmpO} {K : PySem.W.Frag} (hK : K = F.K) {Q : VK} (h : tD F W (.chain o o' ma mb mc) σ H Q) : tChain (rB2 K (cmpD o)) (rB2 K (cmpD o')) (tD F W ma) (tD F W mb) (tD F W mc) σ H Q := by
  obtain ⟨e, B, I, A⟩ := h
  simp only [ev] at A
  refine ⟨e, B, I, A.bind.imp fun x B1 H1 g1 h1 v hv => ?_⟩
  refine ⟨e, B1, I.step g1, h1.bind.imp fun y B2 H2 g2 h2 w hw => ?_⟩
  have I2 := (I.step g1).step g2
  have mk : ∀ {v : V} {d : D} {mm : ME} {H : Hp}, Rs F mm σ e H d v → Di K H (Pr F σ e false) d v := fun hv => by rw [hK]; exact hv.ar fun h => by cases h
  cases q : cmpD o x y with
  | none => rw [q] at h2; exact h2.elim
  | some k =>
    rw [q] at h2
    refine ⟨Pr F σ e false, x, y, k, mk (hv.go g2), mk hw, q, k, rfl, ?_⟩
    cases k with
    | false => exact ite_ff (bl_of I2 h2)
    | true =>
      refine ite_tt ⟨e, B2, I2, h2.bind.imp fun z B3 H3 g3 h3 u hu => ?_⟩
      obtain ⟨c, hc, h3⟩ := h3.optB
      exact ⟨Pr F σ e false, y, z, c, mk (hw.go g3), mk hu, hc, bl_of (I2.step g3) h3⟩
theorem d_chain {o o' : CmpO} (hK : X.K = F.K) (hu : X.A.units + 65 < cLine) (ha : PE X a (tD F W ma)) (hb : PE X b (tD F W mb)) (hc : PE X c (tD F W mc)) (hm : lastMarks [cop o, cop o'] [b, c] = false) :
    PE X (.Compare a [cop o, cop o'] [b, c] pos) (tD F W (.chain o o' ma mb mc)) := (pe_chain (op_cmpD hu o) (op_cmpD hu o') ha hb hc hm).imp fun σ H Q h => r_chain hK h
theorem dT_chain {o o' : CmpO} (hK : X.K = F.K) (hu : X.A.units + 65 < cLine) (ha : PE X a (tD F W ma)) (hb : PE X b (tD F W mb)) (hc : PE X c (tD F W mc)) (hm : lastMarks [cop o, cop o'] [b, c] = false) :
    PT X (.Compare a [cop o, cop o'] [b, c] pos) (tT F W (.chain o o' ma mb mc)) := (pt_chain (op_cmpD hu o) (op_cmpD hu o') ha hb hc hm).imp fun σ H Q h => r_chain hK (tT_tD h)
/-! ### not, and, or -/
theorem d_nt (ha : PE X a (tD F W ma)) : PE X (.UnaryOp .Not a pos) (tD F W (.nt ma)) := by
  refine (pe_not ha).imp fun σ H Q ⟨e, B, I, A⟩ => ?_
  simp only [ev] at A
  refine ⟨e, B, I, A.bools.imp fun d B1 H1 g ⟨k, hk, h⟩ v hv => ?_⟩
  subst hk
  exact ⟨k, hv.dv.b, bl_of (I.step g) h⟩
theorem dT_nt (ha : PT X a (tT F W ma)) : PT X (.UnaryOp .Not a pos) (tT F W (.nt ma)) := by
  refine (pt_not ha).imp fun σ H Q ⟨e, B, I, A⟩ => ?_
  simp only [ev] at A
  refine ⟨e, B, I, A.bools.imp fun d B1 H1 g ⟨k, hk, h⟩ => ⟨k, hk, ?_⟩⟩
  obtain ⟨k', e', q⟩ := h H1 (I.step g).here
  cases e'
  exact q
/-- a tail of and, or -/
def boV : BoolOp → ME → MEs → ME
  | _, m, .nil => m
  | .And, m, .cons m' r => .andv m (boV .And m' r)
  | .Or, m, .cons m' r => .orv m (boV .Or m' r)
theorem d_bo1 {op : BoolOp} (ha : PE X a (tD F W ma)) : PE X (.BoolOp op [a] pos) (tD F W ma) := pe_one ha
theorem d_and {r : List Expr} (ha : PE X a (tD F W ma)) (hb : PE X (.BoolOp .And (b :: r) pos) (tD F W mb)) : PE X (.BoolOp .And (a :: b :: r) pos) (tD F W (.andv ma mb)) := by
  refine (pe_and ha hb).imp fun σ H Q ⟨e, B, I, A⟩ => ?_
  simp only [ev] at A
  refine ⟨e, B, I, A.bools.imp fun d B1 H1 g ⟨k, hk, h⟩ v hv => ?_⟩
  subst hk
  refine ⟨k, hv.dv.b, ?_⟩
  cases k with
  | false => exact ite_ff (bl_of (I.step g) h)
  | true =>
    refine ite_tt ⟨e, B1, I.step g, (After.bools h).imp fun d2 B2 H2 g2 ⟨k2, hk2, h2⟩ w hw => ?_⟩
    subst hk2
    have hb := hw.dv.b
    subst hb
    exact h2 H2 ((I.step g).step g2).here _ .bl
theorem d_or {r : List Expr} (ha : PE X a (tD F W ma)) (hb : PE X (.BoolOp .Or (b :: r) pos) (tD F W mb)) : PE X (.BoolOp .Or (a :: b :: r) pos) (tD F W (.orv ma mb)) := by
  refine (pe_or ha hb).imp fun σ H Q ⟨e, B, I, A⟩ => ?_
  simp only [ev] at A
  refine ⟨e, B, I, A.bools.imp fun d B1 H1 g ⟨k, hk, h⟩ v hv => ?_⟩
  subst hk
  refine ⟨k, hv.dv.b, ?_⟩
  cases k with
  | true => exact ite_tt (bl_of (I.step g) h)
  | false =>
    refine ite_ff ⟨e, B1, I.step g, (After.bools h).imp fun d2 B2 H2 g2 ⟨k2, hk2, h2⟩ w hw => ?_⟩
    subst hk2
    have hb := hw.dv.b
    subst hb
    exact h2 H2 ((I.step g).step g2).here _ .bl
end
end PD
set_option linter.all false
set_option maxRecDepth 100000
set_option maxHeartbeats 1000000
/-! Readings: tests, subscripts, slices, calls, built-ins, the bag. -/
namespace PD
open PySem PySem.Spec PyProof.Rows L2
/-! ### forms of text -/
def plainE : Expr → Bool
  | .Starred .. => false
  | _ => true
theorem star_plain {e : Expr} {es : List Expr} {env : Env} (h : plainE e = true) : starEach (e :: es) env = (false, eval e env) :: starEach es env := by
  cases e <;> first | rfl | cases h
theorem star_any {pos : Pos} {env : Env} : ∀ {es : List Expr}, es.all plainE = true → (backTo pos (starEach es env)).any (·.1) = false
  | [], _ => rfl
  | e :: es, h => by
    obtain ⟨h1, h2⟩ := Bool.and_eq_true_iff.mp (List.all_cons ▸ h)
    rw [star_plain h1]
    show (false || (backTo pos (starEach es env)).any (·.1)) = false
    rw [star_any h2]
    rfl
def isSlice : Expr → Bool
  | .Slice .. => true
  | _ => false
theorem plainIx {b : Expr} (h : isSlice b = false) : PlainIx b := fun o i => by
  cases b <;> first | rfl | cases h
def valTest : Expr → Bool
  | .UnaryOp .Not _ _ => false
  | .BoolOp .. => false
  | .IfExp .. => false
  | .Compare .. => false
  | _ => true
theorem isTrue_val {e : Expr} {env : Env} (h : valTest e = true) (whole : Sem Value) : isTrue e env whole = (do let v ← whole; standAt e.pos; holding [v] (truthy v)) := by
  cases e with
  | UnaryOp op x p => cases op <;> first | rfl | cases h
  | _ => first | rfl | cases h
section
variable {X : Cx} {F : Fx} {W : Nat → Hp → Prop} {pos p p2 : Pos} {a b c : Expr} {ma mb mc m : ME} {σ : Slots} {H : Hp}
/-! ### tests -/
theorem tT_and {Q : Bool → Hp → Prop} (h : tT F W (.andv ma mb) σ H Q) : tAnd (tT F W ma) (tT F W mb) σ H Q := by
  obtain ⟨e, B, I, A⟩ := h
  simp only [ev] at A
  refine ⟨e, B, I, A.bools.imp fun d B1 H1 g ⟨k, hk, h⟩ => ⟨k, hk, ?_⟩⟩
  cases k with
  | false =>
    obtain ⟨k', e', q⟩ := h H1 (I.step g).here
    cases e'
    exact ite_ff q
  | true =>
    refine ite_tt ⟨e, B1, I.step g, (After.bools h).imp fun d2 B2 H2 g2 ⟨k2, hk2, h2⟩ => ⟨k2, hk2, ?_⟩⟩
    obtain ⟨k', e', q⟩ := h2 H2 ((I.step g).step g2).here
    cases e'
    exact q
theorem tT_or {Q : Bool → Hp → Prop} (h : tT F W (.orv ma mb) σ H Q) : tOr (tT F W ma) (tT F W mb) σ H Q := by
  obtain ⟨e, B, I, A⟩ := h
  simp only [ev] at A
  refine ⟨e, B, I, A.bools.imp fun d B1 H1 g ⟨k, hk, h⟩ => ⟨k, hk, ?_⟩⟩
  cases k with
  | true =>
    obtain ⟨k', e', q⟩ := h H1 (I.step g).here
    cases e'
    exact ite_tt q
  | false =>
    refine ite_ff ⟨e, B1, I.step g, (After.bools h).imp fun d2 B2 H2 g2 ⟨k2, hk2, h2⟩ => ⟨k2, hk2, ?_⟩⟩
    obtain ⟨k', e', q⟩ := h2 H2 ((I.step g).step g2).here
    cases e'
    exact q
theorem dW_and1 (ha : PT X a (tT F W ma)) : PW X (.BoolOp .And [a] pos) (tT F W ma) := pw_and1 ha
theorem dW_or1 (ha : PT X a (tT F W ma)) : PW X (.BoolOp .Or [a] pos) (tT F W ma) := pw_or1 ha
theorem dW_and {r : List Expr} (ha : PT X a (tT F W ma)) (hb : PW X (.BoolOp .And (b :: r) pos) (tT F W mb)) : PW X (.BoolOp .And (a :: b :: r) pos) (tT F W (.andv ma mb)) := (pw_and ha hb).imp fun _ _ _ h => tT_and h
theorem dW_or {r : List Expr} (ha : PT X a (tT F W ma)) (hb : PW X (.BoolOp .Or (b :: r) pos) (tT F W mb)) : PW X (.BoolOp .Or (a :: b :: r) pos) (tT F W (.orv ma mb)) := (pw_or ha hb).imp fun _ _ _ h => tT_or h
/-! ### a if t else b -/
theorem d_ite (hc : PT X c (tT F W mc)) (ha : PE X a (tD F W ma)) (hb : PE X b (tD F W mb)) : PE X (.IfExp c a b pos) (tD F W (.ite mc ma mb)) := by
  refine (pe_ifExp hc ha hb).imp fun σ H Q ⟨e, B, I, A⟩ => ?_
  simp only [ev] at A
  refine ⟨e, B, I, A.bools.imp fun d B1 H1 g ⟨k, hk, h⟩ => ⟨k, hk, ?_⟩⟩
  have h1 : sf F.O (.ite mc ma mb) = (sf F.O ma && sf F.O mb) := by simp only [sf]
  have h2 : ss F.O (.ite mc ma mb) = (sf F.O ma && sf F.O mb) := by simp only [ss]
  cases k with
  | true => exact ite_tt ⟨e, B1, I.step g, After.imp h fun d2 B2 H2 g2 q v hv => q v (.mk' h1 h2 (hv.dv.less fun x z => z.le (by simp only [Bool.and_eq_true]; exact fun z => z.1)))⟩
  | false => exact ite_ff ⟨e, B1, I.step g, After.imp h fun d2 B2 H2 g2 q v hv => q v (.mk' h1 h2 (hv.dv.less fun x z => z.le (by simp only [Bool.and_eq_true]; exact fun z => z.2)))⟩
/-! ### a[b], a[b:c] -/
theorem d_ix (hK : X.K = F.K) (ha : PE X a (tD F W ma)) (hb : PE X b (tD F W mb)) (hs : isSlice b = false) : PE X (.Subscript a b pos) (tD F W (.ix ma mb)) := by
  refine (pe_ix ix_D ha hb (plainIx hs)).imp fun σ H Q h => ?_
  refine bin_of (g := fun x y B => ofO B (itemD x y)) (r := rD2 X.K itemD) h (fun e B => by simp only [ev]) fun e B2 H2 x y v w I hv hw hh => ?_
  obtain ⟨d, hd, h⟩ := hh.ofO
  have hyb : Di F.K H2 (Pr F σ e (ss F.O ma)) y w := by
    cases y with
    | int i => have e := hw.di.i; subst e; exact (Dv.ofI i : Dv F.K H2 (Pr F σ e (ss F.O ma)) (.int i) (.int i))
    | _ => cases x <;> simp only [itemD] at hd <;> cases hd
  refine ⟨Pr F σ e (ss F.O ma), x, y, d, I.domP _, ?_, ?_, hd, ?_⟩
  · rw [hK]; exact hv.di
  · rw [hK]; exact hyb
  · rw [hK]; exact out_of I (by simp only [sf]) (by simp only [ss]) h
def tOp' (F : Fx) (W : Nat → Hp → Prop) (mo : MO) : TO := fun σ H Q => ∃ e B, SI F σ H e B ∧ After F W σ H e (evo F.Γ mo e B) fun o _ H' => Q o H'
structure DO (X : Cx) (F : Fx) (W : Nat → Hp → Prop) (e : Option Expr) (mo : MO) : Prop where
  po : PO X e (tOp' F W mo)
theorem _root_.L2.PO.imp {X : Cx} {e : Option Expr} {t t' : TO} (h : PO X e t) (k : ∀ σ H Q, t' σ H Q → t σ H Q) : PO X e t' := ⟨fun pins s σ H Q I q => h.run pins s σ H Q I (k σ H Q q)⟩
theorem do_none : PO X none (tOp' F W .no) := po_none.imp fun σ H Q ⟨e, B, I, A⟩ => by
  simp only [evo] at A
  exact A H I.here
theorem do_some (ha : PE X a (tD F W ma)) : PO X (some a) (tOp' F W (.so ma)) := (po_some ha).imp fun σ H Q ⟨e, B, I, A⟩ => by
  simp only [evo] at A
  refine ⟨e, B, I, A.bind.imp fun d B1 H1 g h v hv => ?_⟩
  cases d with
  | int i => exact ⟨i, hv.di.i, h H1 (I.step g).here⟩
  | _ => exact False.elim h
theorem d_sl {lo hi : Option Expr} {ml mh : MO} (hK : X.K = F.K) (ha : PE X a (tD F W ma)) (hl : PO X lo (tOp' F W ml)) (hh : PO X hi (tOp' F W mh)) : PE X (.Subscript a (.Slice lo hi none p2) pos) (tD F W (.sl ma ml mh)) := by
  refine (pe_slice sl_D ha hl hh).imp fun σ H Q ⟨e, B, I, A⟩ => ?_
  simp only [ev] at A
  refine ⟨e, B, I, A.bind.imp fun x B1 H1 g1 h1 v hv => ?_⟩
  refine ⟨e, B1, I.step g1, h1.bind.imp fun l B2 H2 g2 h2 => ?_⟩
  refine ⟨e, B2, (I.step g1).step g2, h2.bind.imp fun u B3 H3 g3 h3 => ?_⟩
  obtain ⟨d, hd, h⟩ := h3.ofO
  refine ⟨Pr F σ e (ss F.O ma), x, d, (((I.step g1).step g2).step g3).domP _, ?_, hd, ?_⟩
  · rw [hK]; exact ((hv.go g2).go g3).di
  · rw [hK]; exact out_of (((I.step g1).step g2).step g3) (by simp only [sf]) (by simp only [ss]) h
/-! ### built-ins -/
theorem d_un {e : SEnv} {o : BltO} {v : V} {x : D} {B : Bg} {Q : VK} (hK : X.K = F.K) (I : SI F σ H e B) (hv : Rs F ma σ e H x v) (hh : After F W σ H e (ofO B (bltD o x)) fun d' _ H' => ∀ v', Rs F (.blt o ma) σ e H' d' v' → Q v' H') : rD1 X.K (bltD o) v H Q := by
  obtain ⟨d, hd, h⟩ := hh.ofO
  refine ⟨Pr F σ e (ss F.O ma), x, d, I.domP _, ?_, hd, ?_⟩
  · rw [hK]; exact hv.di
  · rw [hK]; exact out_of I (by simp only [sf]) (by simp only [ss]) h
theorem d_neg (hK : X.K = F.K) (ha : PE X a (tD F W ma)) : PE X (.UnaryOp .USub a pos) (tD F W (.blt .neg ma)) :=
  (pe_un un_negD ha).imp fun σ H Q h => un_of (g := fun _ x B => ofO B (bltD .neg x)) (r := rD1 X.K (bltD .neg)) h (fun e B => by simp only [ev]) fun e B1 H1 x v I hv hh => d_un hK I hv hh
theorem pa_1 (ha : PE X a (tD F W ma)) (h : plainE a = true) : PA X [a] (tCons (tD F W ma) tNil) := pa_cons ha pa_nil (star_plain h)
theorem d_bltB {id : String} {x : Str} {o : BltO} (hc : CallR X (.builtin id) (rC1 X.K (bltD o))) (hK : X.K = F.K) (hg : Gl X x) (hm : X.mg x = none) (hv : bootBuiltins x = some (.builtin id)) (ha : PE X a (tD F W ma)) (hp : plainE a = true) (hn : x ≠ "__name__") (hdb : (x == ("__debug__" : Str)) = false) :
    PE X (.Call (.Name x p) [a] [] pos) (tD F W (.blt o ma)) :=
  (pe_callB hc hg hm hv (pa_1 ha hp) hn hdb (star_plain hp)).imp fun σ H Q h => un_of (g := fun _ x B => ofO B (bltD o x)) (r := fun v H Q => rC1 X.K (bltD o) [v] H Q) h (fun e B => by simp only [ev]) fun e B1 H1 x v I hv hh => ⟨v, rfl, d_un hK I hv hh⟩
theorem d_bltT {id : String} {x : Str} {o : BltO} (hc : CallR X (.type id) (rC1 X.K (bltD o))) (hK : X.K = F.K) (hg : Gl X x) (hm : X.mg x = none) (hv : bootBuiltins x = some (.type id)) (ha : PE X a (tD F W ma)) (hp : plainE a = true) (hn : x ≠ "__name__") (hdb : (x == ("__debug__" : Str)) = false) :
    PE X (.Call (.Name x p) [a] [] pos) (tD F W (.blt o ma)) :=
  (pe_callTy hc hg hm hv (pa_1 ha hp) hn hdb (star_plain hp)).imp fun σ H Q h => un_of (g := fun _ x B => ofO B (bltD o x)) (r := fun v H Q => rC1 X.K (bltD o) [v] H Q) h (fun e B => by simp only [ev]) fun e B1 H1 x v I hv hh => ⟨v, rfl, d_un hK I hv hh⟩
theorem d_blt2 {id : String} {x : Str} {o : Blt2} (hc : CallR X (.builtin id) (fun vs H Q => ∃ x y, vs = [x, y] ∧ rD2 X.K (blt2D o) x y H Q)) (hK : X.K = F.K) (hg : Gl X x) (hm : X.mg x = none) (hv : bootBuiltins x = some (.builtin id)) (ha : PE X a (tD F W ma)) (hb : PE X b (tD F W mb)) (hp : plainE a = true) (hp2 : plainE b = true) (hn : x ≠ "__name__") (hdb : (x == ("__debug__" : Str)) = false) :
    PE X (.Call (.Name x p) [a, b] [] pos) (tD F W (.blt2 o ma mb)) := by
  refine (pe_callB hc hg hm hv (pa_cons ha (pa_cons hb pa_nil (star_plain hp2)) (star_plain hp)) hn hdb (star_plain hp) (star_any (by simp [hp2]))).imp fun σ H Q h => ?_
  refine bin_of (g := fun x y B => ofO B (blt2D o x y)) (r := fun v w H Q => ∃ x y, [v, w] = [x, y] ∧ rD2 X.K (blt2D o) x y H Q) h (fun e B => by simp only [ev]) fun e B2 H2 x y v w I hv hw hh => ?_
  obtain ⟨d, hd, h⟩ := hh.ofO
  refine ⟨v, w, rfl, Pr F σ e (ss F.O ma && ss F.O mb), x, y, d, I.domP _, ?_, ?_, hd, ?_⟩
  · rw [hK]; exact hv.ar fun h => by simp at h; exact h.1
  · rw [hK]; exact hw.ar fun h => by simp at h; exact h.2
  · rw [hK]; exact out_of I (by simp only [sf]) (by simp only [ss]) h
theorem d_isi {x y : Str} {t : Ty} (hK : X.K = F.K) (hg : Gl X x) (hm : X.mg x = none) (hv : bootBuiltins x = some (.builtin "isinstance")) (hg2 : Gl X y) (hm2 : X.mg y = none) (hv2 : bootBuiltins y = some (.type (tyN t))) (ha : PE X a (tD F W ma)) (hp : plainE a = true) (hn : x ≠ "__name__") (hdb : (x == ("__debug__" : Str)) = false) (hn2 : y ≠ "__name__") (hdb2 : (y == ("__debug__" : Str)) = false) :
    PE X (.Call (.Name x p) [a, .Name y p2] [] pos) (tD F W (.isi ma t)) := by
  refine (pe_callB (call_isiD t) hg hm hv (pa_cons ha (pa_cons (pe_bltn (v := .ty (tyN t)) hg2 hm2 hv2 rfl hn2 hdb2) pa_nil rfl) (star_plain hp)) hn hdb (star_plain hp) (star_any rfl)).imp fun σ H Q h => ?_
  refine un_of (g := fun _ x B => optB B (isiD t x)) (r := fun v H Q => ∃ x A dx b, [v, .ty (tyN t)] = [x, .ty (tyN t)] ∧ Di X.K H A dx x ∧ isiD t dx = some b ∧ Q (.bl b) H) h (fun e B => by simp only [ev]) fun e B1 H1 x v I hv hh => ?_
  obtain ⟨b, hb, h⟩ := hh.optB
  refine ⟨v, Pr F σ e (ss F.O ma), x, b, rfl, ?_, hb, bl_of I h⟩
  rw [hK]; exact hv.di
end
end PD
set_option linter.all false
set_option maxRecDepth 100000
set_option maxHeartbeats 1000000
/-! Promises of defs; calls; new lists; the bag. -/
namespace PD
open PySem PySem.Spec PyProof.Rows L2
def none_ : Addr → Prop := fun _ => False
/-- a new list -/
def Frs (K : PySem.W.Frag) (A : Addr → Prop) (H H' : Hp) (d : D) (v : V) : Prop := ∃ ds a xs, d = .list ds ∧ v = .ref a ∧ H' a = some (.lst xs) ∧ xs.length ≤ sizeLine ∧ Nw H a ∧ DvAll K H' (fun x => A x ∨ x = a) ds xs
/-- the promise of a def that the evaluator knows as f -/
def spP (T : List (Addr × Str)) (cls : Nat → Addr) (call : Nat → List D → R D) (new : Bool) (K : PySem.W.Frag) (f np : Nat) : Sp := fun vs H Q E => vs.length = np ∧ ∃ A0 ds, Dom A0 H ∧ LamX.Tabs T H ∧ DvAll K H A0 ds vs ∧
  match call f ds with
  | .stuck => False
  | .ok d => ∀ v H', Ext T none_ H H' → Dv K H' A0 d v → (new = true → (∃ ds, d = .list ds) → Frs K A0 H H' d v) → Q v H'
  | .err c => ∀ H', Ext T none_ H H' → E (.ref (cls c)) none H'
/-- .. of a def whose first argument is the bag -/
def spB (T : List (Addr × Str)) (cls : Nat → Addr) (call : Nat → List D → Bg → M D) (K : PySem.W.Frag) (f np : Nat) : Sp := fun vs H Q E => vs.length = np ∧ ∃ A0 ds b B us, vs = .ref b :: us ∧ Dom A0 H ∧ LamX.Tabs T H ∧ A0 b ∧ H b = some (.lst (B.map V.int)) ∧ DvAll K H A0 ds us ∧
  match call f ds B with
  | .stuck => False
  | .ok (d, B') => ∀ v H', Ext T (fun a => some b = some a) H H' → H' b = some (.lst (B'.map V.int)) → Dv K H' A0 d v → Q v H'
  | .err c => ∀ H', Ext T (fun a => some b = some a) H H' → E (.ref (cls c)) none H'
/-- the errors that are taken -/
def EW (F : Fx) (W : Nat → Hp → Prop) : XK := fun v p H' => ∃ c, v = .ref (F.cls c) ∧ p = none ∧ W c H'
def Tk (X : Cx) (F : Fx) (W : Nat → Hp → Prop) : Prop := ∃ W' : WX, L2N.Takes X W' ∧ ∀ c σ H', W c H' → W' (.ref (F.cls c)) none σ H'
theorem takesN {X : Cx} : L2N.Takes X (fun _ _ _ _ => False) := fun _ _ x => by
  obtain ⟨_, _, _, _, _, _, _, _, _, _, _, _, _, _, _, _, z⟩ := x
  exact z.elim
theorem Tk.passes {X : Cx} {F : Fx} {W : Nat → Hp → Prop} (t : Tk X F W) : Passes (L2N.CX X.prog X.w) X (EW F W) := by
  obtain ⟨W', t, h⟩ := t
  exact L2N.passes_call t fun cls d σ H ⟨c, e1, e2, e3⟩ => by subst e1 e2; exact h c σ H e3
/-- a list is written -/
theorem Ext.lst {T : List (Addr × Str)} {M : Addr → Prop} {H : Hp} {b : Addr} {xs : List V} {o : HO} (h : H b = some (.lst xs)) (m : M b) : Ext T M H (upd H b o) := by
  have k : ∀ a u, H a = some u → u ≠ .lst xs → upd H b o a = some u := fun a u e n => by
    have ne : a ≠ b := fun z => by rw [z, h] at e; cases e; exact n rfl
    rw [upd_ne ne]; exact e
  refine ⟨fun a u e n t => ?_, fun a xs e => k a _ e (fun z => by cases z), fun a u w e => k a _ e (fun z => by cases z), fun t p hp => ?_⟩
  · have ne : a ≠ b := fun z => n (by rw [z]; exact m)
    rw [upd_ne ne]; exact e
  · obtain ⟨ps, h1, h2, h3⟩ := t p hp
    refine ⟨ps, k _ _ h1 (fun z => by cases z), h2, fun pos cv hc => ?_⟩
    obtain ⟨c, e1, e2⟩ := h3 pos cv hc
    exact ⟨c, e1, k _ _ e2 (fun z => by cases z)⟩
def MEs.len : MEs → Nat
  | .nil => 0
  | .cons _ r => r.len + 1
theorem M.bind_ok {α β : Type} {x : M α} {f : α → Bg → M β} {r : β × Bg} (h : x.bind f = .ok r) : ∃ a B, x = .ok (a, B) ∧ f a B = .ok r := by
  cases x with
  | ok p => exact ⟨p.1, p.2, rfl, h⟩
  | stuck => cases h
  | err c => cases h
theorem evs_len {Γ : Tab} : ∀ {ms : MEs} {e : SEnv} {B : Bg} {ds : List D} {B' : Bg}, evs Γ ms e B = .ok (ds, B') → ds.length = ms.len
  | .nil, e, B, ds, B', h => by simp only [evs] at h; cases h; rfl
  | .cons m r, e, B, ds, B', h => by
    simp only [evs] at h
    obtain ⟨a, B1, _, h⟩ := M.bind_ok h
    obtain ⟨as, B2, h2, h⟩ := M.bind_ok h
    cases h
    show as.length + 1 = r.len + 1
    rw [evs_len h2]
section
variable {X : Cx} {F : Fx} {W : Nat → Hp → Prop} {pos p p2 : Pos} {a b c : Expr} {ma mb mc m : ME} {ms : MEs} {es : List Expr} {σ : Slots} {H H1 H' : Hp} {e : SEnv} {B B1 B' : Bg}
theorem After.val {α β : Type} {x : M α} {P : α → Bg → Hp → Prop} (h : After F W σ H e x P) (k : ∀ a B', x = .ok (a, B') → After F W σ H e x P → After F W σ H e (.ok (a, B')) P) : After F W σ H e x P := h
theorem After.with {α : Type} {x : M α} {P P' : α → Bg → Hp → Prop} (h : After F W σ H e x P) (k : ∀ a B' H', x = .ok (a, B') → Go F σ H e B' H' → P a B' H' → P' a B' H') : After F W σ H e x P' := by
  cases x with
  | stuck => exact h
  | err c => exact h
  | ok p => exact fun H' g => k _ _ H' rfl g (h H' g)
theorem Go.nw (I : SI F σ H e B) (g : Go F σ H e B' H') {a : Addr} (h : Nw H' a) : Nw H a := fun o q => Classical.byContradiction fun t => by
  have t' : ∀ ps, o ≠ .tbl ps := fun ps z => t ⟨ps, z⟩
  by_cases hb : Bm σ e a
  · obtain ⟨i, h1, h2⟩ := hb
    exact h.no (g.bag i a h1 h2) (fun ps z => by cases z)
  · exact h.no (g.ext.keep a o q hb t') t'
def tF (F : Fx) (W : Nat → Hp → Prop) (m : ME) : TE := fun σ H Q => ∃ e B, SI F σ H e B ∧ After F W σ H e (ev F.Γ m e B) fun d _ H' => ∀ v, Rs F m σ e H' d v → ((∃ ds, d = .list ds) → Frs F.K (Pr F σ e (ss F.O m)) H H' d v) → Q v H'
theorem d_new (h : PE X a (tF F W m)) : PE X a (tD F W m) := h.imp fun σ H Q ⟨e, B, I, A⟩ => ⟨e, B, I, A.imp fun d B' H' g q v hv _ => q v hv⟩
/-- a def's call gives what the evaluator says -/
theorem call_go {f : Nat} {new : Bool} {np : Nat} {Q : VK} {ds : List D} {vs : List V} {fl : Bool} (hK : X.K = F.K) (I : SI F σ H e B) (hl : vs.length = np) (hvs : DvAll F.K H (Pr F σ e fl) ds vs)
    (hh : After F W σ H e ((F.Γ.call f ds).bind fun d => .ok (d, B)) fun d _ H' => ∀ v, Dv F.K H' (Pr F σ e fl) d v → (new = true → (∃ ds, d = .list ds) → Frs F.K (Pr F σ e fl) H H' d v) → Q v H') : spP F.T F.cls F.Γ.call new X.K f np vs H Q (EW F W) := by
  refine ⟨hl, Pr F σ e fl, ds, I.domP _, I.tabs, by rw [hK]; exact hvs, ?_⟩
  cases q : F.Γ.call f ds with
  | stuck => rw [q] at hh; exact hh
  | err c =>
    rw [q] at hh
    exact fun H' x => ⟨c, rfl, rfl, hh H' (x.mono fun _ z => z.elim)⟩
  | ok d =>
    rw [q] at hh
    intro v H' x hv fr
    rw [hK] at hv fr
    refine hh H' ⟨x.mono fun _ z => z.elim, fun i b h1 h2 => ?_⟩ v hv fr
    obtain ⟨_, b', e1, e2, _⟩ := I.bag i h1
    rw [h2] at e1; cases e1
    exact x.keep b _ e2 (fun z => z) (fun ps z => by cases z)
theorem pa_len (ha : PA X es (tA F W ms)) : PA X es (fun σ H Q => ∃ e B, SI F σ H e B ∧ After F W σ H e (evs F.Γ ms e B) fun ds _ H' => ∀ vs, vs.length = ms.len → DvAll F.K H' (Pr F σ e (sfs F.O ms)) ds vs → Q vs H') :=
  ha.imp fun σ H Q ⟨e, B, I, A⟩ => ⟨e, B, I, A.with fun ds B' H' q g h vs hvs => h vs (by rw [hvs.length, evs_len q]) hvs⟩
theorem d_call {k f np : Nat} {g : Addr} {fd : FuncData} {ps : List Str} {x : Str} {new : Bool} (FO : FnOk X.prog X.w X.K X.mg X.base (L2N.CX X.prog X.w) k g fd ps (spP F.T F.cls F.Γ.call new X.K f np)) (hr : Room k X.A) (hg : Gl X x) (hm : X.mg x = some (.ref g)) (hk : PySem.W.keepIn X.K (.ref g) = true) (hb : Binds X.K fd ps [])
    (tk : Tk X F W) (hK : X.K = F.K) (hl : ms.len = np) (ha : PA X (a :: es) (tA F W ms)) (hdb : (x == ("__debug__" : Str)) = false) (hp : plainE a = true) (hps : es.all plainE = true) :
    PE X (.Call (.Name x p) (a :: es) [] pos) (tD F W (.call f ms)) := by
  refine (pe_call FO hr hg hm hk hb .nil tk.passes (pa_len ha) hdb (star_plain hp) (star_any hps)).imp fun σ H Q ⟨e, B, I, A⟩ => ?_
  simp only [ev] at A
  refine ⟨e, B, I, A.bind.imp fun ds B1 H1 g h vs hn hvs => ?_⟩
  show spP _ _ _ _ _ _ _ (vs ++ []) _ _ _
  rw [List.append_nil]
  exact call_go hK (I.step g) (hn.trans hl) hvs (After.imp h fun d B2 H2 g2 q v hv _ => q v (.mk' (by simp only [sf]) (by simp only [ss]) hv))
theorem d_callF {k f np : Nat} {g : Addr} {fd : FuncData} {ps : List Str} {x : Str} (FO : FnOk X.prog X.w X.K X.mg X.base (L2N.CX X.prog X.w) k g fd ps (spP F.T F.cls F.Γ.call true X.K f np)) (hr : Room k X.A) (hg : Gl X x) (hm : X.mg x = some (.ref g)) (hk : PySem.W.keepIn X.K (.ref g) = true) (hb : Binds X.K fd ps [])
    (tk : Tk X F W) (hK : X.K = F.K) (hl : ms.len = np) (ha : PA X (a :: es) (tA F W ms)) (hdb : (x == ("__debug__" : Str)) = false) (hp : plainE a = true) (hps : es.all plainE = true) :
    PE X (.Call (.Name x p) (a :: es) [] pos) (tF F W (.call f ms)) := by
  refine (pe_call FO hr hg hm hk hb .nil tk.passes (pa_len ha) hdb (star_plain hp) (star_any hps)).imp fun σ H Q ⟨e, B, I, A⟩ => ?_
  simp only [ev] at A
  refine ⟨e, B, I, A.bind.imp fun ds B1 H1 g h vs hn hvs => ?_⟩
  show spP _ _ _ _ _ _ _ (vs ++ []) _ _ _
  rw [List.append_nil]
  refine call_go hK (I.step g) (hn.trans hl) hvs (After.imp h fun d B2 H2 g2 q v hv fr => q v (.mk' (by simp only [sf]) (by simp only [ss]) hv) ?_)
  intro hl'
  obtain ⟨ds, a, xs, e1, e2, e3, e4, e5, e6⟩ := fr rfl hl'
  exact ⟨ds, a, xs, e1, e2, e3, e4, Go.nw I g e5, by simp only [ss]; exact e6⟩
theorem d_callb {k f np i : Nat} {g : Addr} {fd : FuncData} {ps : List Str} {x y : Str} (FO : FnOk X.prog X.w X.K X.mg X.base (L2N.CX X.prog X.w) k g fd ps (spB F.T F.cls F.Γ.callb X.K f np)) (hr : Room k X.A) (hg : Gl X x) (hm : X.mg x = some (.ref g)) (hk : PySem.W.keepIn X.K (.ref g) = true) (hb : Binds X.K fd ps [])
    (tk : Tk X F W) (hK : X.K = F.K) (hl : ms.len + 1 = np) (hN : X.N[i]? = some y) (hv : Vis X.env.scope y) (hd : (y == ("__debug__" : Str)) = false) (hcd : (y == ("__classdict__" : Str)) = false) (ha : PA X es (tA F W ms)) (hdb : (x == ("__debug__" : Str)) = false) (hps : es.all plainE = true) :
    PE X (.Call (.Name x p) (.Name y p2 :: es) [] pos) (tD F W (.callb i f ms)) := by
  refine (pe_call FO hr hg hm hk hb .nil tk.passes (pa_cons (pe_var hN hv hd hcd) (pa_len ha) rfl) hdb rfl (star_any hps)).imp fun σ H Q ⟨e, B, I, A⟩ => ?_
  simp only [ev] at A
  cases q : e[i]? with
  | none => rw [q] at A; exact A.elim
  | some z =>
    rw [q] at A
    cases z with
    | bag =>
      obtain ⟨_, b, e1, e2, _⟩ := I.bag i q
      refine ⟨_, e1, e, B, I, A.bind.imp fun ds B1 H1 g h vs hn hvs => ?_⟩
      have I1 := I.step g
      have hB : Bm σ e b := ⟨i, q, e1⟩
      refine ⟨?_, Pr F σ e (sfs F.O ms), ds, b, B1, vs, by rw [List.append_nil], I1.domP _, I1.tabs, hB.pr, g.bag i b q e1, by rw [hK]; exact hvs, ?_⟩
      · rw [List.append_nil, List.length_cons, hn]; exact hl
      have hM : ∀ a, some b = some a → Bm σ e a := fun a z => by cases z; exact hB
      cases r : F.Γ.callb f ds B1 with
      | stuck => rw [r] at h; exact h
      | err c => rw [r] at h; exact fun H' x => ⟨c, rfl, rfl, h H' (x.mono hM)⟩
      | ok p =>
        obtain ⟨d, B'⟩ := p
        rw [r] at h
        intro v H' x hb' hv
        rw [hK] at hv
        refine h H' ⟨x.mono hM, fun j b' j1 j2 => ?_⟩ v (.mk' (by simp only [sf]) (by simp only [ss]) hv)
        have ij := I.one i j q j1
        subst ij
        rw [e1] at j2; cases j2
        exact hb'
    | _ => exact A.elim
theorem can_ints : ∀ B : List Int, PyData.canLayAll0 (B.map .int) = true
  | [] => rfl
  | x :: r => by
    show (true && PyData.canLayAll0 (r.map .int)) = true
    rw [can_ints r]; rfl
theorem depth_ints : ∀ B : List Int, PyData.depthAll (B.map .int) = 0
  | [] => rfl
  | x :: r => by
    show max 0 (PyData.depthAll (r.map .int)) = 0
    rw [depth_ints r]; rfl
theorem shaped_ints (B : List Int) : SeqAt.shaped (.list (B.map .int)) = true := by
  show (PyData.canLayAll0 (B.map .int) && decide (PyData.depthAll (B.map .int) + 1 ≤ 64)) = true
  rw [can_ints, depth_ints]; rfl
theorem d_bagne {i : Nat} {y : Str} (hN : X.N[i]? = some y) (hu : X.A.units + 65 < cLine) (hv : Vis X.env.scope y) (hd : (y == ("__debug__" : Str)) = false) (hcd : (y == ("__classdict__" : Str)) = false) :
    PE X (.Compare (.Name y p) [.NotEq] [.List [] p2] pos) (tD F W (.bagne i)) := by
  refine (pe_cmpR (op_neD (by omega)) (pe_var hN hv hd hcd) (pe_lst pa_nil) rfl).imp fun σ H Q ⟨e, B, I, A⟩ => ?_
  simp only [ev] at A
  cases q : e[i]? with
  | none => rw [q] at A; exact A.elim
  | some z =>
    rw [q] at A
    cases z with
    | bag =>
      obtain ⟨_, b, e1, e2, _⟩ := I.bag i q
      refine ⟨_, e1, Nat.zero_le _, fun p hp => ⟨.list (B.map .int), .list [], .lst (SqL.of (same_new hp _ _ e2)) (DvAll.dp (A := none_) _ (.ofInts _)), .lst (SqL.of upd_same) .nil, shaped_ints B, rfl, ?_⟩⟩
      have eb : (!PyData.eqv (.list (B.map .int)) (.list [])) = !B.isEmpty := by cases B <;> rfl
      rw [eb]
      exact A _ (I.here.same (same_new hp)) _ .bl
    | _ => exact A.elim
theorem d_bagpop {i k0 : Nat} {y : Str} {p3 p4 : Pos} (hN : X.N[i]? = some y) (hv : Vis X.env.scope y) (hd : (y == ("__debug__" : Str)) = false) (hcd : (y == ("__classdict__" : Str)) = false) (hline : (p2.endLine == pos.line) = true) :
    PE X (.Call (.Attribute (.Name y p) "pop" p2) [.Constant (.int 0) k0 p3] [] pos) (tD F W (.bagpop i)) := by
  refine (pe_bm PySem.F.plainAttrs_list PySem.F.slot_list_pop PySem.F.type_list_pop mt_popAt (pe_var hN hv hd hcd) (pa_cons pe_int pa_nil) rfl rfl hline).imp fun σ H Q ⟨e, B, I, A⟩ => ?_
  simp only [ev] at A
  cases q : e[i]? with
  | none => rw [q] at A; exact A.elim
  | some z =>
    rw [q] at A
    cases z with
    | bag =>
      cases B with
      | nil => exact A.elim
      | cons n r =>
        obtain ⟨_, b, e1, e2, _⟩ := I.bag i q
        refine ⟨_, e1, .inl ⟨rfl, _, SqL.of e2⟩, b, _, 0, 0, .int n, rfl, rfl, e2, by decide, by decide, ?_, rfl, ?_⟩
        · simp [seqIndex?]
        · refine A _ ⟨Ext.lst e2 ⟨i, q, e1⟩, fun j b' j1 j2 => ?_⟩ _ (.ofV fun _ => .ofI n)
          have ij := I.one i j q j1
          subst ij
          rw [e1] at j2; cases j2
          show upd H b _ b = _
          rw [upd_same]; rfl
    | _ => exact A.elim
end
end PD
set_option linter.all false
set_option maxRecDepth 100000
set_option maxHeartbeats 1000000
/-! enumerate over a tuple. -/
namespace PD
open PySem PySem.Spec PyProof.Rows L2
/-- the heap behind enumerate of the tuple at a -/
def ensH (q : Heap) (a : Addr) : Heap :=
  (q.push { cls := .type "tuple_iterator", data := .fields #[.ref a, .int 0 0] }).push
    { cls := .type "enumerate", data := .fields #[.none, .bool false, .ref q.objs.size, rawInt 0, .none, .none] }
section
open AutoSeq1 (wpAny_loadPart')
theorem ens_made (a : Addr) (ys : Array Value) (m : Nat) (dd : Option Addr) (zs : Array (Option Value)) :
    Meets (Builtin.«enumerate.__new__» ⟨[.type "enumerate", .ref a], []⟩) (fun _ Z u =>
      u.heap.get? a = some { cls := .type "tuple", dict := dd, data := .seq ys m, slots := zs } ∧ Z (.ok (.ret (.ref (u.heap.objs.size + 1)))) { u with heap := ensH u.heap a }) := by
  refine .of_wp fun prog w A R s h => ?_
  obtain ⟨q, gs, dp, tk, os⟩ := s
  obtain ⟨ha, h⟩ := h
  have e1 := sub_enumerate
  have ht : Heap.IsTuple (Shared.heap ⟨q, gs, dp, tk, os⟩) a ys := ⟨_, ha, rfl, m, rfl⟩
  have h : R (.ok (.ret (.ref (q.push { cls := .type "tuple_iterator", data := .fields #[.ref a, .int 0 0] }).objs.size))) ⟨ensH q a, gs, dp, tk, os⟩ := by
    rw [Heap.size_push]; exact h
  wp_walk using wpAny_loadPart' ha
  refine wpAny_stack_any fun st => wpAny_pure ?_
  split
  · rename_i cc _ _ _ _ _
    cases (cc == Value.type "enumerate")
    all_goals
      wp_walk using wpAny_loadPart' ha, wpAny_pyIter_tuple ht
      exact ⟨_, rfl, h⟩
  · wp_walk using wpAny_loadPart' ha, wpAny_pyIter_tuple ht
    exact ⟨_, rfl, h⟩
end
section
variable {prog : Program} {w : World} {A : Around} {E : Value → Shared → Prop} {s : Shared}
theorem ens_call {a : Addr} {ys : Array Value} {Q : Value → Shared → Prop} (ht : s.heap.IsTuple a ys)
    (h : ∀ q, IsEnum q (s.heap.objs.size + 1) s.heap.objs.size 0 .none → q.IsTupleIter s.heap.objs.size a 0 → (∀ b o, s.heap.get? b = some o → q.get? b = some o) → Q (.ref (s.heap.objs.size + 1)) { s with heap := q }) :
    wpAny (model prog w) A (call (.type "enumerate") [.ref a]) Q E s := by
  obtain ⟨⟨c, dd, dt, zs⟩, ha, hc, m, hd⟩ := ht
  simp only at hc hd
  subst hc hd
  refine callType_new F.called_enumerate (by decide) (F.typeCall_enumerate_1 _) (F.newCall_enumerate_1 _) (fun obj => F.args_object_init_2 obj _) F.entry_enumerate_new (ens_made a ys m dd zs) ⟨ha, ?_⟩
  have hz : (s.heap.push { cls := .type "tuple_iterator", data := .fields #[.ref a, .int 0 0] }).objs.size = s.heap.objs.size + 1 := Heap.size_push ..
  have he : IsEnum (ensH s.heap a) (s.heap.objs.size + 1) s.heap.objs.size 0 .none := by
    rw [← hz]
    exact Heap.get?_push_size _ rfl
  exact ⟨⟨_, he, rfl⟩, h _ he ⟨_, Heap.get?_push_of_some _ (Heap.get?_push_size _ rfl), rfl, rfl⟩ fun b o x => Heap.get?_push_of_some _ (Heap.get?_push_of_some _ x)⟩
end
/-- the tuple at a, each item in a new pair with its number -/
def IteT (K : PySem.W.Frag) (a : Addr) : It :=
  ⟨fun i H => ∃ (xs : List V) (x : V), SqT K H a xs ∧ xs[i]? = some x,
    fun i H v H' => ∃ T x, v = .ref T ∧ H T = none ∧ H' = upd H T (.tup [.int (i : Nat), x]) ∧ ∀ xs, SqT K H a xs → xs[i]? = some x,
    fun i H => ∃ xs : List V, SqT K H a xs ∧ xs.length ≤ i⟩
theorem turn_enT {P : Program} {w : World} {K : PySem.W.Frag} {elts : List Expr} {kk : Nat} {tpos : Pos} (a e it : Addr) :
    Turn P w K (.Tuple elts kk tpos) (IteT K a) [e, it] e (fun i h => (∃ old, IsEnum h e it ((i : Nat) : Int) old) ∧ h.IsTupleIter it a i ∧ e ≠ it ∧ a ≠ it ∧ e ≠ a) where
  mem := by simp
  obj := by
    intro i h st b hb
    obtain ⟨⟨old, he⟩, ⟨o, ho, hc, hd⟩, _⟩ := st
    rcases (by simpa using hb : b = e ∨ b = it) with z | z
    · rw [z]; exact ⟨_, he, fun v q => nomatch q⟩
    · rw [z]; exact ⟨o, ho, fun v q => by rw [hd] at q; cases q⟩
  keep := by
    intro i h h' st k
    obtain ⟨⟨old, he⟩, hi, hne⟩ := st
    exact ⟨⟨old, k e (by simp) _ he⟩, hi.at fun o q => k it (by simp) o q, hne⟩
  item := by
    intro X hP hw hK hc i pins s σ H E I hf st hg
    subst hP hw hK
    obtain ⟨⟨old, he⟩, hit, hne, hai, hea⟩ := st
    obtain ⟨xs, x, hq, hx⟩ := hg
    obtain ⟨its, rv, pt, hz⟩ := I.tuple hq
    obtain ⟨u, hu, ru⟩ := rv.get hx
    have hel : e < s.heap.objs.size := Heap.lt_size he
    have hil : it < s.heap.objs.size := by
      obtain ⟨_, q, _⟩ := hit
      exact Heap.lt_size q
    have hlt : i < its.toArray.size := by
      have : its[i]? = some u := hu
      obtain ⟨z, _⟩ := List.getElem?_eq_some_iff.mp this
      simpa using z
    have hA : X.A.in1.handled = none := I.ok.hd hc
    refine wpAny_pyNext_enum_itemD (Draws.tuple hA it a hai its.toArray) he ⟨hit, pt⟩ hlt hne (by simp [hne, hea]) fun y h' tk hy ho st' hT hsz hk => ?_
    have ey : y = u := by
      have h1 : its[i]? = some u := hu
      have h2 : its.toArray[i]? = some y := hy
      rw [List.getElem?_toArray, h1] at h2
      exact (Option.some.inj h2).symm
    subst ey
    refine ⟨_, rfl, wpAny_letOwnedTupleGo_enum (s := { s with heap := h', toks := tk + 1 }) ho fun h'' he' sb => ?_⟩
    have hT2 : h''.get? s.heap.objs.size = some { cls := .type "tuple", data := .seq #[.int i tk, y] } := (sb.2 _ (Nat.ne_of_gt hel)).trans hT
    have new : ObjOk X.prog X.w (upd H s.heap.objs.size (.tup [.int (i : Nat), x])) h'' s.heap.objs.size (.tup [.int (i : Nat), x]) :=
      ⟨by show 2 ≤ sizeLine; decide, [.int i tk, y], .cons ⟨_, rfl⟩ (.cons ru .nil), ⟨_, hT2, rfl, _, rfl⟩⟩
    have I1 : Inv X pins σ (upd H s.heap.objs.size (.tup [.int (i : Nat), x])) { s with heap := h'', toks := tk + 1 } :=
      I.turnedNew (ch := [e, it]) (fun b ob hb q => (sb.2 b (fun z => hb (by simp [z]))).trans (hk b ob (fun z => hb (by simp [z])) (fun z => hb (by simp [z])) q)) hf (Nat.le_refl _) new
    refine ⟨.ref s.heap.objs.size, _, I1, rfl, ⟨_, x, rfl, I.hok.fresh (Nat.le_refl _), rfl, fun ys hy => by rw [I.tuple_inj hy hq]; exact hx⟩, ⟨⟨y, ?_⟩, st'.1.at fun o q => (sb.2 it (Ne.symm hne)).trans q, hne, hai, hea⟩, fun b hb => ?_⟩
    · have e1 : ((i + 1 : Nat) : Int) = (i : Int) + 1 := by omega
      rw [e1]; exact he'
    · have hb' : b < s.heap.objs.size := by
        rcases (by simpa using hb : b = e ∨ b = it) with z | z
        · rw [z]; exact hel
        · rw [z]; exact hil
      rw [upd_ne (Nat.ne_of_lt hb')]
      exact (hf b hb).1
  done := by
    intro X hP hw hK hc i pins s σ H E I hf st hg
    subst hP hw hK
    obtain ⟨⟨old, he⟩, hit, hne, hai, hea⟩ := st
    obtain ⟨xs, hq, hx⟩ := hg
    obtain ⟨its, rv, pt, hz⟩ := I.tuple hq
    obtain ⟨f0, f1, f2, f3, f4, f5⟩ := hf it (by simp)
    have hl := rv.length
    have hA : X.A.in1.handled = none := I.ok.hd hc
    have hT : s.TypeIs (.ref e) "enumerate" := ⟨_, he, rfl⟩
    have fin : wpAny (model X.prog X.w) X.A (pyNext (.ref e)) (fun r s' => r = none ∧ Inv X pins σ H s') E s := by
      unfold pyNext
      refine wpAny_bind (wpAny_attempt (wpAny_callSpecial?_slot (name := Str.ofString "__next__") hT F.slot_enumerate_next
        (wpAny_call_entry F.slot_enumerate_next hT F.entry_enumerate_next ?_ (F.args_enumerate_next_1 _))))
      show wpAny _ _ (field (.ref e) 2 >>= _) _ _ _
      refine wpAny_bind (wpAny_field he rfl (x := .ref it) rfl ?_)
      refine wpAny_bind (wpAny_nextOf_tuple_end hA hit pt (by simp; omega) fun h' x eb hx' => ?_)
      obtain ⟨o, ho, hc'⟩ := hx'
      refine wpAny_bind (wpAny_isInstance (T := "StopIteration") (b := true) ⟨o, ho, hc'⟩ isSubtype_stop ?_)
      exact wpAny_pure ⟨rfl, I.turned (t' := s.toks) (fun b o hb q => eb b o hb q) f0 f1 f3 f4 f5⟩
    exact fin
  self := fun A i s Q E st h => by
    obtain ⟨⟨_, he⟩, _⟩ := st
    exact wpAny_pyIter_enum he h
def iEnA (K : PySem.W.Frag) (ta : TA) : TI := fun σ H R => ta σ H fun vs H1 => ∃ a xs, vs = [.ref a] ∧ ((SqL K H1 a xs ∧ R (Ite K a) H1) ∨ (SqT K H1 a xs ∧ R (IteT K a) H1))
theorem pi_enA {X : Cx} {e : Expr} {ta : TA} {p pos tpos : Pos} {elts : List Expr} {kk : Nat} (hg : Gl X "enumerate") (hm : X.mg "enumerate" = none) (ha : PA X [e] ta) (hs : starEach [e] X.env = [(false, eval e X.env)]) :
    PI X (.Tuple elts kk tpos) (.Call (.Name "enumerate" p) [e] [] pos) (iEnA X.K ta) := by
  refine ⟨fun pins s σ H R I h => Call_ (ld_blt I hg hm boot_enumerate (PyProof.Rows.callWith_type1 (thn (ha.run pos pins s σ H _ I h) fun us s1 ⟨vs, H1, I1, r1, q1⟩ => ?_) hs rfl))⟩
  obtain ⟨a, xs, ex, q1⟩ := q1
  subst ex
  cases r1 with
  | cons r rr =>
    cases rr
    cases r
    have two : ∀ b ∈ [s1.heap.objs.size + 1, s1.heap.objs.size], FpOk X pins H1 b := fun b hb => by
      have hle : s1.heap.objs.size ≤ b := by
        rcases (by simpa using hb : b = s1.heap.objs.size + 1 ∨ b = s1.heap.objs.size) with z | z <;> rw [z]
        · exact Nat.le_add_right _ _
        · exact Nat.le_refl _
      exact I1.fpOk hle (I1.hok.fresh hle)
    rcases q1 with ⟨hq, q⟩ | ⟨hq, q⟩
    · obtain ⟨its, rv, p', hz⟩ := I1.list hq
      refine call_enumerate_list p'.isList fun h' he hit hsz hk => wpAny_pyIter_enum he ?_
      exact ⟨s1.heap.objs.size + 1, [s1.heap.objs.size + 1, s1.heap.objs.size], _, _, H1, rfl, I1.kept (t' := s1.toks) hk, turn_enum a (s1.heap.objs.size + 1) s1.heap.objs.size, ⟨⟨.none, he⟩, hit, Nat.succ_ne_self _⟩, two, q⟩
    · obtain ⟨its, rv, p', hz⟩ := I1.tuple hq
      have hlt : a < s1.heap.objs.size := by
        obtain ⟨o, ho, _⟩ := id p'
        exact Heap.lt_size ho
      refine ens_call (show s1.heap.IsTuple a its.toArray from p') fun h' he hit hk => wpAny_pyIter_enum he ?_
      exact ⟨s1.heap.objs.size + 1, [s1.heap.objs.size + 1, s1.heap.objs.size], _, _, H1, rfl, I1.kept (t' := s1.toks) hk, turn_enT a (s1.heap.objs.size + 1) s1.heap.objs.size, ⟨⟨.none, he⟩, hit, Nat.succ_ne_self _, Nat.ne_of_lt hlt, Nat.ne_of_gt (Nat.lt_succ_of_lt hlt)⟩, two, q⟩
/-- a list or a tuple -/
def iSq (K : PySem.W.Frag) (tl : TE) : TI := fun σ H R => tl σ H fun x H1 => ∃ a xs, x = .ref a ∧ ((SqL K H1 a xs ∧ R (Itl K a) H1) ∨ (SqT K H1 a xs ∧ R (Itt K a) H1))
theorem pi_sq {X : Cx} {tg l : Expr} {tl : TE} (hl : PE X l tl) : PI X tg l (iSq X.K tl) := by
  refine ⟨fun pins s σ H R I h => thn (hl.run pins s σ H _ I h) fun v s1 ⟨x, H1, I1, r1, q1⟩ => ?_⟩
  obtain ⟨a, xs, e, q1⟩ := q1
  subst e
  cases r1
  have one : ∀ b ∈ [s1.heap.objs.size], FpOk X pins H1 b := fun b hb => by
    rw [List.mem_singleton.mp hb]
    exact I1.fpOk (Nat.le_refl _) (I1.hok.fresh (Nat.le_refl _))
  rcases q1 with ⟨hq, q⟩ | ⟨hq, q⟩
  · obtain ⟨its, rv, p', hz⟩ := I1.list hq
    exact wpAny_pyIter_list p'.isList ⟨s1.heap.objs.size, [s1.heap.objs.size], _, _, H1, rfl, I1.kept (t' := s1.toks) fun b o e => Heap.get?_push_of_some _ e, turn_list a _, ⟨_, Heap.get?_push_size _ rfl, rfl, rfl⟩, one, q⟩
  · obtain ⟨its, rv, p', hz⟩ := I1.tuple hq
    exact wpAny_pyIter_tuple (show s1.heap.IsTuple a its.toArray from p') ⟨s1.heap.objs.size, [s1.heap.objs.size], _, _, H1, rfl, I1.kept (t' := s1.toks) fun b o e => Heap.get?_push_of_some _ e, turn_tuple a _, ⟨_, Heap.get?_push_size _ rfl, rfl, rfl⟩, one, q⟩
end PD
set_option linter.all false
set_option maxRecDepth 100000
set_option maxHeartbeats 1000000
/-! Targets, walks over data, comprehensions. -/
namespace PD
open PySem PySem.Spec PyProof.Rows L2
section
variable {F : Fx} {W : Nat → Hp → Prop} {σ σ' : Slots} {H H1 H2 H' : Hp} {e e' : SEnv} {B B1 B2 B' : Bg}
/-! ### a slot that holds a value, or nothing -/
theorem SI.put (I : SI F σ H e B) {i : Nat} {x : Option V} {z : Sl} (hi : i ∉ F.O) (hz : z = .emp ∨ ∃ d v, z = .val d ∧ x = some v ∧ Dv F.K H (Av F σ e) d v) : SI F (σ.set i x) H (e.set i z) B := by
  have zb : z ≠ .bag := by rcases hz with h | ⟨d, v, h, _⟩ <;> rw [h] <;> exact fun q => nomatch q
  have zo : ∀ ds, z ≠ .own ds := fun ds => by rcases hz with h | ⟨d, v, h, _⟩ <;> rw [h] <;> exact fun q => nomatch q
  have ne : ∀ {j : Nat} {s : Sl}, (e.set i z)[j]? = some s → s ≠ z → j ≠ i ∧ e[j]? = some s := fun {j s} h n => by
    rw [List.getElem?_set] at h
    split at h
    · split at h
      · exact absurd (Option.some.inj h).symm n
      · cases h
    · rename_i q
      exact ⟨fun w => q w.symm, h⟩
  have at_ : ∀ {j : Nat}, j ≠ i → (σ.set i x)[j]? = σ[j]? := fun {j} n => by
    rw [List.getElem?_set, if_neg (fun w => n w.symm)]
  have bag' : ∀ {j : Nat}, (e.set i z)[j]? = some .bag → j ≠ i ∧ e[j]? = some .bag := fun h => ne h (fun q => zb q.symm)
  have own' : ∀ {j : Nat} {ds}, (e.set i z)[j]? = some (.own ds) → j ≠ i ∧ e[j]? = some (.own ds) := fun {j ds} h => ne h (fun q => zo ds q.symm)
  have Own' : ∀ {j : Nat}, Own (e.set i z) j → j ≠ i ∧ Own e j := fun {j} h => by
    rcases h with h | ⟨ds, h⟩
    · exact ⟨(bag' h).1, .inl (bag' h).2⟩
    · exact ⟨(own' h).1, .inr ⟨ds, (own' h).2⟩⟩
  have av : ∀ a, Av F (σ.set i x) (e.set i z) a → Av F σ e a := fun a h => by
    rcases h with h | ⟨j, h1, h2⟩
    · exact .inl h
    · obtain ⟨n, h1⟩ := Own' h1
      rw [at_ n] at h2
      exact .inr ⟨j, h1, h2⟩
  have bm : ∀ a, Bm (σ.set i x) (e.set i z) a → Bm σ e a := fun a ⟨j, h1, h2⟩ => by
    obtain ⟨n, h1⟩ := bag' h1
    rw [at_ n] at h2
    exact ⟨j, h1, h2⟩
  refine ⟨by rw [List.length_set, List.length_set]; exact I.len, I.ext, I.tabs, I.dom', fun j d h => ?_, fun j ds h => ?_, fun j h => ?_, fun j k a h1 h2 h3 h4 => ?_, fun j k h1 h2 => ?_, fun b h => ?_, fun p hp => (I.kp p hp).thru (.less av) (.less av)⟩
  · by_cases hj : j = i
    · subst hj
      rcases hz with hz | ⟨d', v, hz, hx, hv⟩
      · rw [List.getElem?_set, if_pos rfl] at h
        split at h
        · rw [hz] at h; cases h
        · cases h
      · rw [List.getElem?_set, if_pos rfl] at h
        split at h
        · rename_i hl
          rw [hz] at h
          cases h
          refine ⟨v, ?_, hv.less av⟩
          rw [List.getElem?_set, if_pos rfl, if_pos (by rw [← I.len]; exact hl), hx]
        · cases h
    · have h' : e[j]? = some (.val d) := by
        rw [List.getElem?_set, if_neg (fun w => hj w.symm)] at h
        exact h
      obtain ⟨v, e1, h1⟩ := I.val j d h'
      exact ⟨v, by rw [at_ hj]; exact e1, h1.less av⟩
  · obtain ⟨n, h⟩ := own' h
    obtain ⟨h0, a, xs, e1, e2, e3, e4, e5, e6⟩ := I.own j ds h
    exact ⟨h0, a, xs, by rw [at_ n]; exact e1, e2, e3, e4.less av, e5, fun q => e6 (q.elim .inl fun q => .inr (bm a q))⟩
  · obtain ⟨n, h⟩ := bag' h
    obtain ⟨h0, b, e1, e2, e3⟩ := I.bag j h
    exact ⟨h0, b, by rw [at_ n]; exact e1, e2, e3⟩
  · obtain ⟨n1, h1⟩ := Own' h1
    obtain ⟨n2, h2⟩ := Own' h2
    rw [at_ n1] at h3
    rw [at_ n2] at h4
    exact I.inj j k a h1 h2 h3 h4
  · exact I.one j k (bag' h1).2 (bag' h2).2
  · obtain ⟨j, h1, h2⟩ := I.b0 b h
    have n : j ≠ i := fun w => hi (by rw [← w]; exact (I.bag j h1).1)
    exact ⟨j, by rw [List.getElem?_set, if_neg (fun w => n w.symm)]; exact h1, by rw [at_ n]; exact h2⟩
theorem SI.setV (I : SI F σ H e B) {i : Nat} {d : D} {v : V} (hi : i ∉ F.O) (hv : Dv F.K H (Av F σ e) d v) : SI F (σ.set i (some v)) H (e.set i (.val d)) B := I.put hi (.inr ⟨d, v, rfl, rfl, hv⟩)
theorem SI.wipe (I : SI F σ H e B) : ∀ {vs : List Nat}, (∀ i ∈ vs, i ∉ F.O) → SI F (L2.wipe σ vs) H (wipeE e vs) B
  | [], _ => I
  | v :: vs, h => (I.wipe (vs := vs) fun i hi => h i (List.mem_cons_of_mem _ hi)).put (h v List.mem_cons_self) (.inl rfl)
theorem wipeE_out : ∀ {vs : List Nat} {i : Nat}, i ∉ vs → (wipeE e vs)[i]? = e[i]?
  | [], _, _ => rfl
  | v :: vs, i, h => by
    unfold wipeE
    rw [List.getElem?_set, if_neg (fun q => h (by rw [q]; exact List.mem_cons_self)), wipeE_out fun q => h (List.mem_cons_of_mem _ q)]
theorem wipeE_in : ∀ {vs : List Nat} {i : Nat} {s : Sl}, i ∈ vs → (wipeE e vs)[i]? = some s → s = .emp
  | v :: vs, i, s, h, q => by
    unfold wipeE at q
    rw [List.getElem?_set] at q
    split at q
    · split at q
      · exact (Option.some.inj q).symm
      · cases q
    · rename_i n
      rcases List.mem_cons.mp h with h | h
      · exact absurd h.symm n
      · exact wipeE_in h q
/-- two states with the same written lists -/
structure Alike (O : List Nat) (σ σ' : Slots) (e e' : SEnv) : Prop where
  l : ∀ i, i ∈ O → σ'[i]? = σ[i]? ∧ e'[i]? = e[i]?
theorem Alike.bm (h : Alike F.O σ σ' e e') (I : SI F σ H e B) (I' : SI F σ' H1 e' B1) (a : Addr) : Bm σ' e' a ↔ Bm σ e a := by
  constructor
  · rintro ⟨i, h1, h2⟩
    obtain ⟨q1, q2⟩ := h.l i (I'.bag i h1).1
    exact ⟨i, by rw [← q2]; exact h1, by rw [← q1]; exact h2⟩
  · rintro ⟨i, h1, h2⟩
    obtain ⟨q1, q2⟩ := h.l i (I.bag i h1).1
    exact ⟨i, by rw [q2]; exact h1, by rw [q1]; exact h2⟩
theorem SI.ownO (I : SI F σ H e B) {i : Nat} (h : Own e i) : i ∈ F.O := by
  rcases h with h | ⟨ds, h⟩
  · exact (I.bag i h).1
  · exact (I.own i ds h).1
theorem Alike.own (h : Alike F.O σ σ' e e') (I : SI F σ H e B) (I' : SI F σ' H1 e' B1) (i : Nat) : Own e' i ↔ Own e i := by
  constructor
  · intro q
    have := (h.l i (I'.ownO q)).2
    unfold Own at q ⊢
    rw [← this]; exact q
  · intro q
    have := (h.l i (I.ownO q)).2
    unfold Own at q ⊢
    rw [this]; exact q
theorem Alike.av (h : Alike F.O σ σ' e e') (I : SI F σ H e B) (I' : SI F σ' H1 e' B1) (a : Addr) : Av F σ' e' a ↔ Av F σ e a := by
  constructor
  · rintro (q | ⟨i, h1, h2⟩)
    · exact .inl q
    · have h1' := (h.own I I' i).mp h1
      exact .inr ⟨i, h1', by rw [← (h.l i (I.ownO h1')).1]; exact h2⟩
  · rintro (q | ⟨i, h1, h2⟩)
    · exact .inl q
    · exact .inr ⟨i, (h.own I I' i).mpr h1, by rw [(h.l i (I.ownO h1)).1]; exact h2⟩
theorem Alike.pr (h : Alike F.O σ σ' e e') (I : SI F σ H e B) (I' : SI F σ' H1 e' B1) (b : Bool) (a : Addr) : Pr F σ' e' b a ↔ Pr F σ e b a := by
  cases b
  · show (F.A0 a ∨ Bm σ' e' a) ↔ (F.A0 a ∨ Bm σ e a)
    rw [h.bm I I' a]
  · exact h.av I I' a
theorem Alike.go (h : Alike F.O σ σ' e e') (I : SI F σ H e B) (I' : SI F σ' H1 e' B1) (g : Go F σ' H1 e' B' H') : Go F σ H1 e B' H' := by
  refine ⟨g.ext.mono fun a q => (h.bm I I' a).mp q, fun i b h1 h2 => ?_⟩
  obtain ⟨q1, q2⟩ := h.l i (I.bag i h1).1
  exact g.bag i b (by rw [q2]; exact h1) (by rw [q1]; exact h2)
/-! ### targets -/
mutual
def Tgt.idx : Tgt → List Nat
  | .nm i => [i]
  | .tp ts => Tgts.idx ts
def Tgts.idx : List Tgt → List Nat
  | [] => []
  | t :: ts => Tgt.idx t ++ Tgts.idx ts
end
def gD (F : Fx) (t : Tgt) : TG := fun v σ H K => ∃ e B d e', SI F σ H e B ∧ Dv F.K H (Av F σ e) d v ∧ bindT t d e = some e' ∧
  ∀ σ', SI F σ' H e' B → Alike F.O σ σ' e e' → σ'.length = σ.length → (∀ j, j ∉ t.idx → σ'[j]? = σ[j]?) → K σ' H
def gDs (F : Fx) (ts : List Tgt) : TGs := fun vs σ H K => ∃ e B ds e', SI F σ H e B ∧ DvAll F.K H (Av F σ e) ds vs ∧ bindTs ts ds e = some e' ∧
  ∀ σ', SI F σ' H e' B → Alike F.O σ σ' e e' → σ'.length = σ.length → (∀ j, j ∉ Tgts.idx ts → σ'[j]? = σ[j]?) → K σ' H
theorem _root_.L2.PG.imp {X : Cx} {e : Expr} {t t' : TG} (h : PG X e t) (k : ∀ v σ H Q, t' v σ H Q → t v σ H Q) : PG X e t' := ⟨fun pins s σ H v u Q I r q => h.run pins s σ H v u Q I r (k v σ H Q q)⟩
theorem _root_.L2.PGs.imp {X : Cx} {e : List Expr} {t t' : TGs} (h : PGs X e t) (k : ∀ v σ H Q, t' v σ H Q → t v σ H Q) : PGs X e t' := ⟨fun pins s σ H v u Q I r q => h.run pins s σ H v u Q I r (k v σ H Q q)⟩
theorem Alike.refl {O : List Nat} : Alike O σ σ e e := ⟨fun _ _ => ⟨rfl, rfl⟩⟩
theorem Alike.trans {O : List Nat} {σ2 : Slots} {e2 : SEnv} (a : Alike O σ σ' e e') (b : Alike O σ' σ2 e' e2) : Alike O σ σ2 e e2 := ⟨fun i h => ⟨(b.l i h).1.trans (a.l i h).1, (b.l i h).2.trans (a.l i h).2⟩⟩
section
variable {X : Cx} {pos : Pos}
theorem g_nm {i : Nat} {x : Str} (hN : X.N.Nodup) (hi : X.N[i]? = some x) (hx : Loc X.env.scope x) (hf : X.fn x = true ∨ X.env.scope.names.lookup x = some .local) (hO : i ∉ F.O) : PG X (.Name x pos) (gD F (.nm i)) := by
  refine (pg_name hN hi hx hf).imp fun v σ H K ⟨e, B, d, e', I, hv, hb, k⟩ => ?_
  simp only [bindT] at hb
  cases hb
  refine k _ (I.setV hO hv) ⟨fun j hj => ?_⟩ (List.length_set ..) fun j hj => ?_
  · have n : i ≠ j := fun q => hO (by rw [q]; exact hj)
    exact ⟨by rw [List.getElem?_set, if_neg n], by rw [List.getElem?_set, if_neg n]⟩
  · have n : i ≠ j := fun q => hj (by simp only [Tgt.idx, List.mem_singleton]; exact q.symm)
    rw [List.getElem?_set, if_neg n]
theorem g_nil : PGs X [] (gDs F []) := pgs_nil.imp fun vs σ H K ⟨e, B, ds, e', I, hv, hb, k⟩ => by
  cases ds with
  | nil =>
    simp only [bindTs] at hb
    cases hb
    exact ⟨hv.eqnil, k σ I .refl rfl fun _ _ => rfl⟩
  | cons d ds => simp only [bindTs] at hb; cases hb
theorem g_cons {a : Expr} {es : List Expr} {t : Tgt} {ts : List Tgt} (h1 : PG X a (gD F t)) (h2 : PGs X es (gDs F ts)) (hs : (assignEach (a :: es) X.env).map (·.2) = assign a X.env :: (assignEach es X.env).map (·.2)) : PGs X (a :: es) (gDs F (t :: ts)) := by
  refine (pgs_cons h1 h2 hs).imp fun vs σ H K ⟨e, B, ds, e', I, hv, hb, k⟩ => ?_
  cases ds with
  | nil => simp only [bindTs] at hb; cases hb
  | cons d ds =>
    obtain ⟨v, r, rfl, h1, h2⟩ := hv.uncons
    simp only [bindTs] at hb
    cases q : bindT t d e with
    | none => rw [q] at hb; cases hb
    | some e1 =>
      rw [q] at hb
      refine ⟨v, r, rfl, e, B, d, e1, I, h1, q, fun σ1 I1 al hl hj => ?_⟩
      refine ⟨e1, B, ds, e', I1, h2.less fun a z => (al.av I I1 a).mp z, hb, fun σ2 I2 al2 hl2 hj2 => k σ2 I2 (al.trans al2) (hl2.trans hl) fun j hjn => ?_⟩
      simp only [Tgts.idx, List.mem_append, not_or] at hjn
      exact (hj2 j hjn.2).trans (hj j hjn.1)
theorem bindTs_len : ∀ {ts : List Tgt} {ds : List D} {e e' : SEnv}, bindTs ts ds e = some e' → ds.length = ts.length
  | [], [], _, _, _ => rfl
  | [], _ :: _, _, _, h => by simp only [bindTs] at h; cases h
  | _ :: _, [], _, _, h => by simp only [bindTs] at h; cases h
  | t :: ts, d :: ds, e, e', h => by
    simp only [bindTs] at h
    split at h
    · rw [List.length_cons, List.length_cons, bindTs_len h]
    · cases h
theorem g_tp {es : List Expr} {k : Nat} {ts : List Tgt} (hc : X.calm = true) (hK : X.K = F.K) (h : PGs X es (gDs F ts)) (hn : (assignEach es X.env).length = ts.length) (hst : (assignEach es X.env).findIdx? (·.1) = none) : PG X (.Tuple es k pos) (gD F (.tp ts)) := by
  refine (pg_tup hc h hn hst).imp fun v σ H K ⟨e, B, d, e', I, hv, hb, k⟩ => ?_
  simp only [bindT] at hb
  cases d with
  | tuple ds =>
    obtain ⟨a, xs, rfl, h1, z, t⟩ := hv.t
    exact ⟨a, xs, rfl, by rw [hK]; exact h1, t.length.trans (bindTs_len hb), e, B, ds, e', I, t, hb, fun σ' I' al hl hj => k σ' I' al hl fun j hjn => hj j (by simpa only [Tgt.idx] using hjn)⟩
  | _ => cases hb
end
end
end PD
set_option linter.all false
set_option maxRecDepth 100000
set_option maxHeartbeats 1000000
/-! Walks over data, comprehensions. -/
namespace PD
open PySem PySem.Spec PyProof.Rows L2
/-- J walks over ds as long as what kp names stands -/
structure WK (K : PySem.W.Frag) (kp : List (D × V)) (ds : List D) (J : It) : Prop where
  len : ds.length ≤ sizeLine
  go : ∀ i H (A0 A : Addr → Prop), i < ds.length → (∀ p ∈ kp, Dj K H A0 A p.1 p.2) → J.go i H
  stop : ∀ H (A0 A : Addr → Prop), (∀ p ∈ kp, Dj K H A0 A p.1 p.2) → J.stop ds.length H
  yld : ∀ i H (A0 A : Addr → Prop) x H', i < ds.length → (∀ p ∈ kp, Dj K H A0 A p.1 p.2) → J.yld i H x H' → Same H H' ∧ ∃ d, ds[i]? = some d ∧ Dv K H' A d x
theorem DvAll.at {K : PySem.W.Frag} {H : Hp} {A : Addr → Prop} {ds : List D} {xs : List V} {i : Nat} (t : DvAll K H A ds xs) (h : i < ds.length) : ∃ d x, ds[i]? = some d ∧ xs[i]? = some x ∧ Dv K H A d x := by
  obtain ⟨x, h1, h2⟩ := t.get (List.getElem?_eq_getElem h)
  exact ⟨_, x, List.getElem?_eq_getElem h, h1, h2⟩
theorem Dj.l {K : PySem.W.Frag} {H : Hp} {A0 A : Addr → Prop} {ds : List D} {v : V} (h : Dj K H A0 A (.list ds) v) : ∃ a xs, v = .ref a ∧ Lq K H A0 a xs ∧ xs.length ≤ sizeLine ∧ DvAll K H A ds xs := h
theorem Dj.t {K : PySem.W.Frag} {H : Hp} {A0 A : Addr → Prop} {ds : List D} {v : V} (h : Dj K H A0 A (.tuple ds) v) : ∃ a xs, v = .ref a ∧ SqT K H a xs ∧ xs.length ≤ sizeLine ∧ DvAll K H A ds xs := Dv.t (K := K) (H := H) (A := A) h
theorem wk_list {K : PySem.W.Frag} {a : Addr} {ds : List D} (hl : ds.length ≤ sizeLine) : WK K [(.list ds, .ref a)] ds (Itl K a) := by
  refine ⟨hl, fun i H A0 A hi h => ?_, fun H A0 A h => ?_, fun i H A0 A x H' hi h y => ?_⟩
  · obtain ⟨b, xs, e, h1, z, t⟩ := (h _ (List.mem_singleton_self _)).l
    cases e
    obtain ⟨d, x, _, hx, _⟩ := t.at hi
    exact ⟨xs, x, h1.sq, hx⟩
  · obtain ⟨b, xs, e, h1, z, t⟩ := (h _ (List.mem_singleton_self _)).l
    cases e
    exact ⟨xs, h1.sq, by rw [t.length]; exact Nat.le_refl _⟩
  · obtain ⟨b, xs, e, h1, z, t⟩ := (h _ (List.mem_singleton_self _)).l
    cases e
    obtain ⟨y1, y2⟩ := y
    obtain ⟨d, x', hd, hx, hv⟩ := t.at hi
    have := y2 xs h1.sq
    rw [hx] at this
    cases this
    subst y1
    exact ⟨.refl _, d, hd, hv⟩
theorem wk_tup {K : PySem.W.Frag} {a : Addr} {ds : List D} (hl : ds.length ≤ sizeLine) : WK K [(.tuple ds, .ref a)] ds (Itt K a) := by
  refine ⟨hl, fun i H A0 A hi h => ?_, fun H A0 A h => ?_, fun i H A0 A x H' hi h y => ?_⟩
  · obtain ⟨b, xs, e, h1, z, t⟩ := (h _ (List.mem_singleton_self _)).t
    cases e
    obtain ⟨d, x, _, hx, _⟩ := t.at hi
    exact ⟨xs, x, h1, hx⟩
  · obtain ⟨b, xs, e, h1, z, t⟩ := (h _ (List.mem_singleton_self _)).t
    cases e
    exact ⟨xs, h1, by rw [t.length]; exact Nat.le_refl _⟩
  · obtain ⟨b, xs, e, h1, z, t⟩ := (h _ (List.mem_singleton_self _)).t
    cases e
    obtain ⟨y1, y2⟩ := y
    obtain ⟨d, x', hd, hx, hv⟩ := t.at hi
    have := y2 xs h1
    rw [hx] at this
    cases this
    subst y1
    exact ⟨.refl _, d, hd, hv⟩
theorem rangeD_len : ∀ {n : Nat} {lo : Int}, (rangeD lo n).length = n
  | 0, _ => rfl
  | n + 1, lo => by show (rangeD (lo + 1) n).length + 1 = n + 1; rw [rangeD_len]
theorem rangeD_at : ∀ {n i : Nat} {lo : Int}, i < n → (rangeD lo n)[i]? = some (.int (lo + i))
  | 0, _, _, h => by omega
  | n + 1, 0, lo, _ => by show some (PyData.int lo) = _; simp
  | n + 1, i + 1, lo, h => by
    show (rangeD (lo + 1) n)[i]? = _
    rw [rangeD_at (by omega)]
    have : lo + 1 + (i : Int) = lo + ((i + 1 : Nat) : Int) := by omega
    rw [this]
theorem wk_range {K : PySem.W.Frag} {lo : Int} {n : Nat} (hl : n ≤ sizeLine) : WK K [] (rangeD lo n) (Itr lo n) := by
  refine ⟨by rw [rangeD_len]; exact hl, fun i H A0 A hi h => ?_, fun H A0 A h => ?_, fun i H A0 A x H' hi h y => ?_⟩
  · rw [rangeD_len] at hi; exact hi
  · rw [rangeD_len]; exact Nat.le_refl _
  · rw [rangeD_len] at hi
    obtain ⟨y1, y2⟩ := y
    subst y1 y2
    exact ⟨.refl _, _, rangeD_at hi, .ofI _⟩
theorem enumD_len : ∀ {xs : List D} {n : Nat}, (enumD n xs).length = xs.length
  | [], _ => rfl
  | x :: xs, n => by show (enumD (n + 1) xs).length + 1 = xs.length + 1; rw [enumD_len]
theorem enumD_at : ∀ {xs : List D} {n i : Nat} {d : D}, xs[i]? = some d → (enumD n xs)[i]? = some (.tuple [.int ((n + i : Nat) : Int), d])
  | [], _, _, _, h => by simp at h
  | x :: xs, n, 0, d, h => by simp at h; subst h; rfl
  | x :: xs, n, i + 1, d, h => by
    show (enumD (n + 1) xs)[i]? = _
    rw [enumD_at (n := n + 1) (i := i) (d := d) (by simpa using h)]
    have : n + 1 + i = n + (i + 1) := by omega
    rw [this]
theorem pair_dv {K : PySem.W.Frag} {H : Hp} {A : Addr → Prop} {T : Addr} {d d' : D} {x x' : V} (hT : H T = none) (h : Dv K H A d x) (h' : Dv K H A d' x') : Dv K (upd H T (.tup [x, x'])) A (.tuple [d, d']) (.ref T) :=
  .newT hT (show 2 ≤ sizeLine by decide) (.cons h (.cons h' .nil))
theorem wk_enumL {K : PySem.W.Frag} {a : Addr} {ds : List D} (hl : ds.length ≤ sizeLine) : WK K [(.list ds, .ref a)] (enumD 0 ds) (Ite K a) := by
  refine ⟨by rw [enumD_len]; exact hl, fun i H A0 A hi h => ?_, fun H A0 A h => ?_, fun i H A0 A x H' hi h y => ?_⟩
  all_goals
    obtain ⟨b, xs, e, h1, z, t⟩ := (h _ (List.mem_singleton_self _)).l
    cases e
    try rw [enumD_len] at hi
  · obtain ⟨d, x, _, hx, _⟩ := t.at hi
    exact ⟨xs, x, h1.sq, hx⟩
  · exact ⟨xs, h1.sq, by rw [enumD_len, t.length]; exact Nat.le_refl _⟩
  · obtain ⟨T, x', y1, y2, y3, y4⟩ := y
    obtain ⟨d, x2, hd, hx, hv⟩ := t.at hi
    have := y4 xs h1.sq
    rw [hx] at this
    cases this
    subst y1 y3
    refine ⟨same_new y2, _, enumD_at hd, ?_⟩
    rw [Nat.zero_add]
    exact pair_dv y2 (.ofI _) hv
theorem wk_enumT {K : PySem.W.Frag} {a : Addr} {ds : List D} (hl : ds.length ≤ sizeLine) : WK K [(.tuple ds, .ref a)] (enumD 0 ds) (IteT K a) := by
  refine ⟨by rw [enumD_len]; exact hl, fun i H A0 A hi h => ?_, fun H A0 A h => ?_, fun i H A0 A x H' hi h y => ?_⟩
  all_goals
    obtain ⟨b, xs, e, h1, z, t⟩ := (h _ (List.mem_singleton_self _)).t
    cases e
    try rw [enumD_len] at hi
  · obtain ⟨d, x, _, hx, _⟩ := t.at hi
    exact ⟨xs, x, h1, hx⟩
  · exact ⟨xs, h1, by rw [enumD_len, t.length]; exact Nat.le_refl _⟩
  · obtain ⟨T, x', y1, y2, y3, y4⟩ := y
    obtain ⟨d, x2, hd, hx, hv⟩ := t.at hi
    have := y4 xs h1
    rw [hx] at this
    cases this
    subst y1 y3
    refine ⟨same_new y2, _, enumD_at hd, ?_⟩
    rw [Nat.zero_add]
    exact pair_dv y2 (.ofI _) hv
theorem zipD_len : ∀ {xs ys : List D}, (zipD xs ys).length = min xs.length ys.length
  | [], _ => by simp [zipD]
  | _ :: _, [] => by simp [zipD]
  | x :: xs, y :: ys => by
    show (zipD xs ys).length + 1 = _
    rw [zipD_len, List.length_cons, List.length_cons]
    omega
theorem zipD_at : ∀ {xs ys : List D} {i : Nat} {d d' : D}, xs[i]? = some d → ys[i]? = some d' → (zipD xs ys)[i]? = some (.tuple [d, d'])
  | [], _, _, _, _, h, _ => by simp at h
  | _ :: _, [], _, _, _, _, h => by simp at h
  | x :: xs, y :: ys, 0, d, d', h, h' => by simp at h h'; subst h h'; rfl
  | x :: xs, y :: ys, i + 1, d, d', h, h' => by
    show (zipD xs ys)[i]? = _
    exact zipD_at (by simpa using h) (by simpa using h')
theorem wk_zipL {K : PySem.W.Frag} {a b : Addr} {ds es : List D} (hl : ds.length ≤ sizeLine) : WK K [(.list ds, .ref a), (.list es, .ref b)] (zipD ds es) (Itz K a b) := by
  refine ⟨by rw [zipD_len]; omega, fun i H A0 A hi h => ?_, fun H A0 A h => ?_, fun i H A0 A x H' hi h y => ?_⟩
  all_goals
    obtain ⟨a', xs, e, h1, z, t⟩ := (h _ List.mem_cons_self).l
    cases e
    obtain ⟨b', ys, e, h2, z2, t2⟩ := (h _ (List.mem_cons_of_mem _ (List.mem_singleton_self _))).l
    cases e
    try rw [zipD_len] at hi
  · obtain ⟨d, x, _, hx, _⟩ := t.at (show i < ds.length by omega)
    obtain ⟨d2, y, _, hy, _⟩ := t2.at (show i < es.length by omega)
    exact ⟨xs, ys, x, y, h1.sq, h2.sq, hx, hy⟩
  · refine ⟨xs, ys, h1.sq, h2.sq, ?_⟩
    rw [zipD_len, t.length, t2.length]; omega
  · obtain ⟨T, x', y', y1, y2, y3, y4, y5⟩ := y
    obtain ⟨d, x2, hd, hx, hv⟩ := t.at (show i < ds.length by omega)
    obtain ⟨d2, x3, hd2, hx2, hv2⟩ := t2.at (show i < es.length by omega)
    have e1 := y4 xs h1.sq
    have e2 := y5 ys h2.sq
    rw [hx] at e1
    rw [hx2] at e2
    cases e1
    cases e2
    subst y1 y3
    exact ⟨same_new y2, _, zipD_at hd hd2, pair_dv y2 hv hv2⟩
theorem wk_zipT {K : PySem.W.Frag} {a b : Addr} {ds es : List D} (hl : ds.length ≤ sizeLine) : WK K [(.tuple ds, .ref a), (.tuple es, .ref b)] (zipD ds es) (RZ.ItzT K a b) := by
  refine ⟨by rw [zipD_len]; omega, fun i H A0 A hi h => ?_, fun H A0 A h => ?_, fun i H A0 A x H' hi h y => ?_⟩
  all_goals
    obtain ⟨a', xs, e, h1, z, t⟩ := (h _ List.mem_cons_self).t
    cases e
    obtain ⟨b', ys, e, h2, z2, t2⟩ := (h _ (List.mem_cons_of_mem _ (List.mem_singleton_self _))).t
    cases e
    try rw [zipD_len] at hi
  · obtain ⟨d, x, _, hx, _⟩ := t.at (show i < ds.length by omega)
    obtain ⟨d2, y, _, hy, _⟩ := t2.at (show i < es.length by omega)
    exact ⟨xs, ys, x, y, h1, h2, hx, hy⟩
  · refine ⟨xs, ys, h1, h2, ?_⟩
    rw [zipD_len, t.length, t2.length]; omega
  · obtain ⟨T, x', y', y1, y2, y3, y4, y5⟩ := y
    obtain ⟨d, x2, hd, hx, hv⟩ := t.at (show i < ds.length by omega)
    obtain ⟨d2, x3, hd2, hx2, hv2⟩ := t2.at (show i < es.length by omega)
    have e1 := y4 xs h1
    have e2 := y5 ys h2
    rw [hx] at e1
    rw [hx2] at e2
    cases e1
    cases e2
    subst y1 y3
    exact ⟨same_new y2, _, zipD_at hd hd2, pair_dv y2 hv hv2⟩
/-! ### readings of iterables -/
/-- whether the list walked over is none that is written, whether its items hold none -/
def sfI (O : List Nat) : MI → Bool
  | .seq e => sf O e
  | .rng1 _ => true
  | .rng2 _ _ => true
  | .zip a b => sf O a && sf O b
  | .enum a => sf O a
def ssI (O : List Nat) : MI → Bool
  | .seq e => ss O e
  | .rng1 _ => true
  | .rng2 _ _ => true
  | .zip a b => ss O a && ss O b
  | .enum a => ss O a
def iD (F : Fx) (W : Nat → Hp → Prop) (mi : MI) : TI := fun σ H R => ∃ e B, SI F σ H e B ∧ After F W σ H e (evi F.Γ mi e B) fun ds _ H' => ∀ J kp, WK F.K kp ds J → (∀ p ∈ kp, Dj F.K H' (Pr F σ e (sfI F.O mi)) (Av F σ e) p.1 p.2) → R J H'
theorem _root_.L2.PI.imp {X : Cx} {tg e : Expr} {t t' : TI} (h : PI X tg e t) (k : ∀ σ H R, t' σ H R → t σ H R) : PI X tg e t' := ⟨fun pins s σ H R I q => h.run pins s σ H R I (k σ H R q)⟩
section
variable {X : Cx} {F : Fx} {W : Nat → Hp → Prop} {pos p p2 : Pos} {tg a b c : Expr} {ma mb mc m : ME} {σ : Slots} {H : Hp}
theorem Rs.dj' {v : V} {e : SEnv} {d : D} {fl : Bool} (h : Rs F m σ e H d v) (hs : ss F.O m = true) (hf : fl = true → sf F.O m = true) : Dj F.K H (Pr F σ e fl) (Av F σ e) d v := by
  have h1 := h.dj
  rw [hs] at h1
  exact h1.thru (.less fun a q => q.le hf) (.less fun a q => q)
/-! ### the iterables -/
theorem wk_seq {ds : List D} {x : D} {v : V} {e : SEnv} (hx : seqD x = some ds) (hv : Dj F.K H (Pr F σ e (sf F.O m)) (Av F σ e) x v) {R : It → Hp → Prop} (k : ∀ J kp, WK F.K kp ds J → (∀ p ∈ kp, Dj F.K H (Pr F σ e (sf F.O m)) (Av F σ e) p.1 p.2) → R J H) :
    ∃ a xs, v = .ref a ∧ ((SqL F.K H a xs ∧ R (Itl F.K a) H) ∨ (SqT F.K H a xs ∧ R (Itt F.K a) H)) := by
  cases x with
  | list ds' =>
    simp only [seqD] at hx
    cases hx
    obtain ⟨a, xs, rfl, q, z, t⟩ := id hv.l
    exact ⟨a, xs, rfl, .inl ⟨q.sq, k _ _ (wk_list (by rw [← t.length]; exact z)) fun p hp => by rw [List.mem_singleton.mp hp]; exact hv⟩⟩
  | tuple ds' =>
    simp only [seqD] at hx
    cases hx
    obtain ⟨a, xs, rfl, q, z, t⟩ := id hv.t
    exact ⟨a, xs, rfl, .inr ⟨q, k _ _ (wk_tup (by rw [← t.length]; exact z)) fun p hp => by rw [List.mem_singleton.mp hp]; exact hv⟩⟩
  | _ => simp only [seqD] at hx; cases hx
theorem i_seq (hK : X.K = F.K) (hs : ss F.O ma = true) (ha : PE X a (tD F W ma)) : PI X tg a (iD F W (.seq ma)) := by
  refine (pi_sq ha).imp fun σ H R ⟨e, B, I, A⟩ => ?_
  simp only [evi] at A
  refine ⟨e, B, I, A.bind.imp fun x B1 H1 g h v hv => ?_⟩
  obtain ⟨ds, hd, k⟩ := h.ofO
  rw [hK]
  exact wk_seq (m := ma) hd (hv.dj' hs fun q => q) (k H1 (I.step g).here)
theorem i_rng1 (hg : Gl X "range") (hm : X.mg "range" = none) (ha : PE X a (tD F W ma)) (hp : plainE a = true) : PI X tg (.Call (.Name "range" p) [a] [] pos) (iD F W (.rng1 ma)) := by
  refine (pi_range1 hg hm (pa_1 ha hp) (star_plain hp)).imp fun σ H R ⟨e, B, I, A⟩ => ?_
  simp only [evi] at A
  refine ⟨e, B, I, A.bind.imp fun x B1 H1 g h v hv => ?_⟩
  cases x with
  | int j =>
    simp only at h
    split at h
    · rename_i hr
      simp only [rngOk, Bool.and_eq_true, decide_eq_true_eq] at hr
      refine ⟨j, by rw [hv.di.i], hr.1.1.2, hr.1.2, ?_⟩
      exact h H1 (I.step g).here _ [] (wk_range (by rw [sizeLine_eq]; omega)) fun p hp => by cases hp
    · exact h.elim
  | _ => exact False.elim h
theorem i_rng2 (hg : Gl X "range") (hm : X.mg "range" = none) (ha : PE X a (tD F W ma)) (hb : PE X b (tD F W mb)) (hp : plainE a = true) (hp2 : plainE b = true) : PI X tg (.Call (.Name "range" p) [a, b] [] pos) (iD F W (.rng2 ma mb)) := by
  refine (pi_range2 hg hm (pa_cons ha (pa_cons hb pa_nil (star_plain hp2)) (star_plain hp)) (by rw [star_plain hp, star_plain hp2]; rfl) (star_plain hp2)).imp fun σ H R ⟨e, B, I, A⟩ => ?_
  simp only [evi] at A
  refine ⟨e, B, I, A.bind.imp fun x B1 H1 g h v hv => ?_⟩
  refine ⟨e, B1, I.step g, h.bind.imp fun y B2 H2 g2 h2 w hw => ?_⟩
  cases x with
  | int i =>
    cases y with
    | int j =>
      simp only at h2
      split at h2
      · rename_i hr
        simp only [rngOk, Bool.and_eq_true, decide_eq_true_eq] at hr
        refine ⟨i, j, by rw [hv.di.i, hw.di.i], ⟨hr.1.1.1.1, hr.1.1.1.2, hr.1.1.2, hr.1.2⟩, ?_⟩
        exact h2 H2 ((I.step g).step g2).here _ [] (wk_range (by rw [sizeLine_eq]; omega)) fun p hp => by cases hp
      · exact h2.elim
    | _ => exact False.elim h2
  | _ => exact False.elim h2
theorem i_zip {elts : List Expr} {kk : Nat} {tpos : Pos} (hK : X.K = F.K) (hg : Gl X "zip") (hm : X.mg "zip" = none) (hs : ss F.O ma = true) (hs2 : ss F.O mb = true) (ha : PE X a (tD F W ma)) (hb : PE X b (tD F W mb)) (hp : plainE a = true) (hp2 : plainE b = true) :
    PI X (.Tuple elts kk tpos) (.Call (.Name "zip" p) [a, b] [] pos) (iD F W (.zip ma mb)) := by
  refine (RZ.pi_zipA hg hm (pa_cons ha (pa_cons hb pa_nil (star_plain hp2)) (star_plain hp)) (star_plain hp) (star_any (by simp [hp2]))).imp fun σ H R ⟨e, B, I, A⟩ => ?_
  simp only [evi] at A
  refine ⟨e, B, I, A.bind.imp fun x B1 H1 g h v hv => ?_⟩
  refine ⟨e, B1, I.step g, h.bind.imp fun y B2 H2 g2 h2 w hw => ?_⟩
  have d1 := (hv.go g2).dj' (fl := sfI F.O (.zip ma mb)) hs (by simp only [sfI, Bool.and_eq_true]; exact fun q => q.1)
  have d2 := hw.dj' (fl := sfI F.O (.zip ma mb)) hs2 (by simp only [sfI, Bool.and_eq_true]; exact fun q => q.2)
  rw [hK]
  cases x with
  | list ds =>
    cases y with
    | list es =>
      obtain ⟨a', xs, rfl, q, z, t⟩ := id d1.l
      obtain ⟨b', ys, rfl, q2, z2, t2⟩ := id d2.l
      refine ⟨a', b', xs, ys, rfl, .inl ⟨q.sq, q2.sq, h2 H2 ((I.step g).step g2).here _ _ (wk_zipL (by rw [← t.length]; exact z)) fun p hp => ?_⟩⟩
      rcases List.mem_cons.mp hp with hp | hp
      · rw [hp]; exact d1
      · rw [List.mem_singleton.mp hp]; exact d2
    | _ => exact False.elim h2
  | tuple ds =>
    cases y with
    | tuple es =>
      obtain ⟨a', xs, rfl, q, z, t⟩ := id d1.t
      obtain ⟨b', ys, rfl, q2, z2, t2⟩ := id d2.t
      refine ⟨a', b', xs, ys, rfl, .inr ⟨q, q2, h2 H2 ((I.step g).step g2).here _ _ (wk_zipT (by rw [← t.length]; exact z)) fun p hp => ?_⟩⟩
      rcases List.mem_cons.mp hp with hp | hp
      · rw [hp]; exact d1
      · rw [List.mem_singleton.mp hp]; exact d2
    | _ => exact False.elim h2
  | _ => exact False.elim h2
theorem i_enum {elts : List Expr} {kk : Nat} {tpos : Pos} (hK : X.K = F.K) (hg : Gl X "enumerate") (hm : X.mg "enumerate" = none) (hs : ss F.O ma = true) (ha : PE X a (tD F W ma)) (hp : plainE a = true) :
    PI X (.Tuple elts kk tpos) (.Call (.Name "enumerate" p) [a] [] pos) (iD F W (.enum ma)) := by
  refine (pi_enA hg hm (pa_1 ha hp) (star_plain hp)).imp fun σ H R ⟨e, B, I, A⟩ => ?_
  simp only [evi] at A
  refine ⟨e, B, I, A.bind.imp fun x B1 H1 g h v hv => ?_⟩
  have d1 := hv.dj' (fl := sfI F.O (.enum ma)) hs (by simp only [sfI]; exact fun q => q)
  rw [hK]
  cases x with
  | list ds =>
    obtain ⟨a', xs, rfl, q, z, t⟩ := id d1.l
    exact ⟨a', xs, rfl, .inl ⟨q.sq, h H1 (I.step g).here _ _ (wk_enumL (by rw [← t.length]; exact z)) fun p hp => by rw [List.mem_singleton.mp hp]; exact d1⟩⟩
  | tuple ds =>
    obtain ⟨a', xs, rfl, q, z, t⟩ := id d1.t
    exact ⟨a', xs, rfl, .inr ⟨q, h H1 (I.step g).here _ _ (wk_enumT (by rw [← t.length]; exact z)) fun p hp => by rw [List.mem_singleton.mp hp]; exact d1⟩⟩
  | _ => exact False.elim h
end
end PD
set_option linter.all false
set_option maxRecDepth 100000
set_option maxHeartbeats 1000000
/-! Comprehensions. -/
namespace PD
open PySem PySem.Spec PyProof.Rows L2
/-- the list D counts as one that does not lie within -/
def Fx.with (F : Fx) (D : Addr) : Fx := { F with A0 := fun a => F.A0 a ∨ a = D }
section
variable {F : Fx} {W : Nat → Hp → Prop} {σ σ' : Slots} {H H1 H2 H' : Hp} {e e' : SEnv} {B B1 B2 B' : Bg} {D : Addr}
theorem with_av {a : Addr} : Av (F.with D) σ e a ↔ Av F σ e a ∨ a = D := by
  constructor
  · rintro ((h | h) | h)
    · exact .inl (.inl h)
    · exact .inr h
    · exact .inl (.inr h)
  · rintro ((h | h) | h)
    · exact .inl (.inl h)
    · exact .inr h
    · exact .inl (.inr h)
theorem with_pr {b : Bool} {a : Addr} : Pr (F.with D) σ e b a ↔ Pr F σ e b a ∨ a = D := by
  cases b
  · show ((F.A0 a ∨ a = D) ∨ Bm σ e a) ↔ ((F.A0 a ∨ Bm σ e a) ∨ a = D)
    constructor
    · rintro ((h | h) | h)
      · exact .inl (.inl h)
      · exact .inr h
      · exact .inl (.inr h)
    · rintro ((h | h) | h)
      · exact .inl (.inl h)
      · exact .inr h
      · exact .inl (.inr h)
  · exact with_av
theorem new_thru {K : PySem.W.Frag} {A : Addr → Prop} (h : H D = none) : Thru K H (upd H D (.lst [])) A (fun a => A a ∨ a = D) := by
  refine ⟨fun a xs q => ?_, fun a xs q => (Thru.same (K := K) (A := A) (same_new h)).t a xs q⟩
  rcases q with q | ⟨o, q⟩ | q
  · exact .inl ⟨same_new h _ _ q.1, fun z => z.elim q.2 fun z => by rw [z, h] at q; cases q.1⟩
  · exact .inr (.inl ⟨o, same_new h _ _ q⟩)
  · exact .inr (.inr q)
theorem SI.with (I : SI F σ H e B) (h : H D = none) : SI (F.with D) σ (upd H D (.lst [])) e B := by
  have th : Thru F.K H (upd H D (.lst [])) (Av F σ e) (Av (F.with D) σ e) := by
    have t := new_thru (K := F.K) (A := Av F σ e) h
    exact ⟨fun a xs q => (t.l a xs q).less fun a q => with_av.mp q, t.t⟩
  have ne : ∀ {a : Addr} {o : HO}, H a = some o → a ≠ D := fun q z => by rw [z, h] at q; cases q
  refine ⟨I.len, I.ext.trans (.same (same_new h)), I.tabs.ext (same_new h), fun a q => ?_, fun i d q => ?_, fun i ds q => ?_, fun i q => ?_, I.inj, I.one, I.b0, fun p hp => (I.kp p hp).thru th th⟩
  · rcases q with q | q
    · obtain ⟨o, h1, h2⟩ := I.dom' a q
      exact ⟨o, same_new h _ _ h1, h2⟩
    · rw [q]; exact ⟨_, upd_same, fun ps z => by cases z⟩
  · obtain ⟨v, e1, h1⟩ := I.val i d q
    exact ⟨v, e1, Dv.thru th d h1⟩
  · obtain ⟨h0, a, xs, e1, e2, e3, e4, e5, e6⟩ := I.own i ds q
    refine ⟨h0, a, xs, e1, same_new h _ _ e2, e3, DvAll.thru th ds e4, e5, ?_⟩
    rintro ((z | z) | z)
    · exact e6 (.inl z)
    · exact ne e2 z
    · exact e6 (.inr z)
  · obtain ⟨h0, b, e1, e2, e3⟩ := I.bag i q
    exact ⟨h0, b, e1, same_new h _ _ e2, e3⟩
/-- a list that does not lie within is written -/
theorem SI.updA (I : SI F σ H e B) {acc zs : List V} (hD : H D = some (.lst acc)) (hA : F.A0 D) (hn : Nw F.H0 D) (hb : ¬ Bm σ e D) : SI F σ (upd H D (.lst zs)) e B := by
  have x : Ext F.T (fun a => a = D) H (upd H D (.lst zs)) := .lst hD rfl
  have th : Thru F.K H (upd H D (.lst zs)) (Av F σ e) (Av F σ e) := x.thru fun a q => by rw [q]; exact .inl hA
  have ne : ∀ {a : Addr}, ¬ a = D → (upd H D (.lst zs)) a = H a := fun n => upd_ne n
  refine ⟨I.len, ⟨fun a o h n t => ?_, fun a xs h => x.tups a xs (I.ext.tups a xs h), fun a o u h => x.frzs a o u (I.ext.frzs a o u h), fun h => x.tabs (I.ext.tabs h)⟩, x.tabs I.tabs, fun a q => ?_, fun i d q => ?_, fun i ds q => ?_, fun i q => ?_, I.inj, I.one, I.b0, fun p hp => (I.kp p hp).thru th th⟩
  · have n' : ¬ a = D := fun z => by rw [z] at h; exact hn.no h t
    rw [ne n']
    exact I.ext.keep a o h n t
  · by_cases n : a = D
    · rw [n]; exact ⟨_, upd_same, fun ps z => by cases z⟩
    · obtain ⟨o, h1, h2⟩ := I.dom' a q
      exact ⟨o, by rw [ne n]; exact h1, h2⟩
  · obtain ⟨v, e1, h1⟩ := I.val i d q
    exact ⟨v, e1, Dv.thru th d h1⟩
  · obtain ⟨h0, a, xs, e1, e2, e3, e4, e5, e6⟩ := I.own i ds q
    have n : ¬ a = D := fun z => e6 (.inl (by rw [z]; exact hA))
    exact ⟨h0, a, xs, e1, by rw [ne n]; exact e2, e3, DvAll.thru th ds e4, e5, e6⟩
  · obtain ⟨h0, b, e1, e2, e3⟩ := I.bag i q
    have n : ¬ b = D := fun z => hb (by rw [← z]; exact ⟨i, q, e1⟩)
    exact ⟨h0, b, e1, by rw [ne n]; exact e2, e3⟩
/-- a test of a comprehension -/
def tC (F : Fx) (W : Nat → Hp → Prop) (mo : MO) : TT := fun σ H Q => ∃ e B, SI F σ H e B ∧ After F W σ H e (evc F.Γ mo e B) fun b _ H' => Q b H'
theorem c_no {X : Cx} : PTs X [] (tC F W .no) := ⟨fun pins s σ H Q I ⟨e, B, I', A⟩ => pts_nil.run pins s σ H Q I (by simp only [evc] at A; exact A H I'.here)⟩
theorem c_so {X : Cx} {c : Expr} {m : ME} (hc : PT X c (tT F W m)) : PTs X [c] (tC F W (.so m)) := ⟨fun pins s σ H Q I ⟨e, B, I', A⟩ => (pts_one hc).run pins s σ H Q I (by
  simp only [evc] at A
  refine ⟨e, B, I', A.bind.imp fun d B1 H1 g h => ?_⟩
  cases d with
  | bool k => exact ⟨k, rfl, h H1 (I'.step g).here⟩
  | _ => exact False.elim h)⟩
theorem After.ok {α : Type} {x : M α} {a : α} {P : α → Bg → Hp → Prop} (h : x = .ok (a, B')) (k : ∀ H', Go F σ H e B' H' → P a B' H') : After F W σ H e x P := by
  rw [h]; exact k
theorem quiet_ok {α : Type} {x : R α} {a : α} (h : R.quiet x = .ok a) : x = .ok a := by
  cases x with
  | ok b => exact h
  | stuck => cases h
  | err c => cases h
end
def compF (Γ : Tab) (elt : ME) (t : Tgt) (c : MO) (vs : List Nat) (σ : SEnv) (d : D) (B : Bg) : M (Option D) := match bindT t d (wipeE σ vs) with
  | none => .stuck
  | some τ => R.quiet ((evc Γ c τ B).bind fun ok B => match ok with
    | true => (ev Γ elt τ B).bind fun x B => .ok (some x, B)
    | false => .ok (none, B))
theorem compF_err {Γ : Tab} {elt : ME} {t : Tgt} {c : MO} {vs : List Nat} {σ : SEnv} {d : D} {B : Bg} {n : Nat} : compF Γ elt t c vs σ d B ≠ .err n := by
  unfold compF
  split
  · exact fun h => nomatch h
  · generalize (evc Γ c _ B).bind _ = z
    cases z <;> exact fun h => nomatch h
theorem compL_err {f : D → Bg → M (Option D)} (hf : ∀ d B n, f d B ≠ .err n) {n : Nat} : ∀ {ds : List D} {B : Bg}, compL f ds B ≠ .err n
  | [], B, h => nomatch h
  | d :: ds, B, h => by
    simp only [compL] at h
    cases q : f d B with
    | stuck => rw [q] at h; cases h
    | err c => exact hf d B c q
    | ok p =>
      obtain ⟨o, B1⟩ := p
      rw [q] at h
      have h : (compL f ds B1).bind _ = R.err n := h
      cases q2 : compL f ds B1 with
      | stuck => rw [q2] at h; cases h
      | err c => exact compL_err hf q2
      | ok p =>
        rw [q2] at h
        have h : (match o with | some x => R.ok (x :: p.1, p.2) | none => R.ok (p.1, p.2)) = R.err n := h
        cases o <;> cases h
section
variable {X : Cx} {F : Fx} {W : Nat → Hp → Prop} {pos : Pos} {elt tg iter : Expr} {me : ME} {t : Tgt} {mi : MI} {mc : MO} {ifs : List Expr} {scope : Scope} {own : List (Str × Nat)}
theorem comp_read (hO : ∀ p ∈ own, p.2 ∉ F.O) (hidx : ∀ j ∈ t.idx, j ∈ own.map (·.2)) {σ : Slots} {H : Hp} {Q : VK} (h : tF F W (.comp me t mi mc (own.map (·.2))) σ H Q) :
    tLc (iD F W mi) (fun v σ H K => ∃ D, gD (F.with D) t v σ H K) (fun σ H Q => ∃ D, tC (F.with D) (fun _ _ => False) mc σ H Q) (fun σ H Q => ∃ D, tD (F.with D) (fun _ _ => False) me σ H Q) (own.map (·.2)) σ H Q := by
  obtain ⟨e, B, I, A⟩ := h
  simp only [ev] at A
  refine ⟨e, B, I, A.bind.imp fun ds B1 H1 g1 h J kp wk hkp D hD => ?_⟩
  have I1 := I.step g1
  have hvs : ∀ i ∈ own.map (·.2), i ∉ F.O := fun i hi => by
    obtain ⟨p, hp, rfl⟩ := List.mem_map.mp hi
    exact hO p hp
  generalize hvv : own.map (·.2) = vs at *
  -- what the evaluator says
  have h : After F W σ H1 e ((compL (compF F.Γ me t mc vs e) ds B1).bind fun r B => .ok (.list r, B)) fun d _ H' => ∀ v, Rs F (.comp me t mi mc vs) σ e H' d v → ((∃ ds, d = .list ds) → Frs F.K (Pr F σ e (ss F.O (.comp me t mi mc vs))) H H' d v) → Q v H' := h
  cases hc0 : compL (compF F.Γ me t mc vs e) ds B1 with
  | stuck => rw [hc0] at h; exact h.elim
  | err n => exact absurd hc0 (compL_err fun d B n => compF_err)
  | ok pr =>
    obtain ⟨rall, Bend⟩ := pr
    rw [hc0] at h
    have h : ∀ H', Go F σ H1 e Bend H' → ∀ v, Rs F (.comp me t mi mc vs) σ e H' (.list rall) v → ((∃ ds, PyData.list rall = .list ds) → Frs F.K (Pr F σ e (sf F.O me)) H H' (.list rall) v) → Q v H' := h
    have nwD : Nw H1 D := .of hD
    have nD : ¬ Av F σ e D := I1.nAv nwD
    have nB : ¬ Bm σ e D := fun z => nD z.av
    have J0 : SI (F.with D) (wipe σ vs) (upd H1 D (.lst [])) (wipeE e vs) B1 := (I1.with hD).wipe hvs
    have al : Alike F.O σ (wipe σ vs) e (wipeE e vs) := ⟨fun i hi => ⟨wipe_out fun z => hvs i z hi, wipeE_out fun z => hvs i z hi⟩⟩
    have bmw : ∀ a, Bm (wipe σ vs) (wipeE e vs) a ↔ Bm σ e a := fun a => al.bm (F := F.with D) (I1.with hD) J0 a
    have prw : ∀ b a, Pr (F.with D) (wipe σ vs) (wipeE e vs) b a ↔ Pr F σ e b a ∨ a = D := fun b a => (al.pr (F := F.with D) (I1.with hD) J0 b a).trans with_pr
    have avw : ∀ a, Av (F.with D) (wipe σ vs) (wipeE e vs) a ↔ Av F σ e a ∨ a = D := fun a => prw true a
    -- what is walked over stands
    let M : Addr → Prop := fun a => Bm σ e a ∨ a = D
    let A' : Addr → Prop := fun a => Av F σ e a ∨ a = D
    have kp0 : ∀ p ∈ kp, Dj F.K (upd H1 D (.lst [])) M A' p.1 p.2 := fun p hp => by
      refine (hkp p hp).thru ?_ (new_thru hD)
      have t1 := new_thru (K := F.K) (A := Pr F σ e (sfI F.O mi)) hD
      exact ⟨fun a xs q => (t1.l a xs q).less fun a z => z.imp (fun z => z.pr) id, t1.t⟩
    have walk : Walk J ds.length (fun H' => ∀ p ∈ kp, Dj F.K H' M A' p.1 p.2) (fun i H' x H'' => Same H' H'' ∧ ∃ d, ds[i]? = some d ∧ Dv F.K H'' A' d x) :=
      ⟨fun i H' hi q => wk.go i H' M A' hi q, fun H' q => wk.stop H' M A' q, fun i H' x H'' hi q y => wk.yld i H' M A' x H'' hi q y⟩
    refine lc_it (g := fun v σ H K => ∃ D, gD (F.with D) t v σ H K) (tt := fun σ H Q => ∃ D, tC (F.with D) (fun _ _ => False) mc σ H Q) (te := fun σ H Q => ∃ D, tD (F.with D) (fun _ _ => False) me σ H Q) (vs := vs) (σ := σ) (H1 := H1) (D := D) (Qd := fun H' => Q (.ref D) H') walk (fun i H' => ∃ (r rest : List PyData) (acc : List V) (Bi : Bg), compL (compF F.Γ me t mc vs e) (ds.drop i) Bi = .ok (rest, Bend) ∧ r ++ rest = rall ∧ Ext F.T M (upd H1 D (.lst [])) H' ∧
      SI (F.with D) (wipe σ vs) H' (wipeE e vs) Bi ∧ H' D = some (.lst acc) ∧ acc.length ≤ i ∧ DvAll F.K H' (Pr (F.with D) (wipe σ vs) (wipeE e vs) (sf F.O me)) r acc)
      ⟨[], rall, [], B1, hc0, rfl, .refl, J0, upd_same, Nat.le_refl _, .nil⟩ (fun i H' _ ⟨_, _, _, _, _, _, x, _⟩ p hp => (kp0 p hp).thru (x.thru fun _ z => z) (x.thru fun a z => z.imp (fun z => z.av) id)) ?_ ?_
    · rintro i x H2 H3 hi ⟨r, rest, acc, Bi, hcl, hr, x2, I2, hacc, hlen, hda⟩ ⟨sm, d, hd, hx⟩
      refine ⟨D, ?_⟩
      have hdrop : ds.drop i = d :: ds.drop (i + 1) := by
        rw [List.drop_eq_getElem_cons hi]
        rw [List.getElem?_eq_getElem hi] at hd
        rw [Option.some.inj hd]
      rw [hdrop] at hcl
      simp only [compL] at hcl
      obtain ⟨o, B2, hf, hcl⟩ := PD.M.bind_ok hcl
      obtain ⟨rest2, B3, hcl, hend⟩ := PD.M.bind_ok hcl
      unfold compF at hf
      cases hb : bindT t d (wipeE e vs) with
      | none => rw [hb] at hf; cases hf
      | some τ =>
        rw [hb] at hf
        have hf := quiet_ok hf
        obtain ⟨b, Bc, hcc, hf⟩ := PD.M.bind_ok hf
        have I3 := I2.step (I2.here.same sm)
        refine ⟨wipeE e vs, Bi, d, τ, I3, hx.less fun a q => (avw a).mp q, hb, fun σ2 J3 al2 hl2 hj2 => ?_⟩
        have hwipe : wipe σ2 vs = wipe σ vs := by
          apply List.ext_getElem?
          intro j
          by_cases hj : j ∈ vs
          · have l1 : ∀ (τ : Slots) , (wipe τ vs)[j]? = if j < τ.length then some none else none := fun τ => by
              by_cases hlt : j < τ.length
              · rw [if_pos hlt]
                have hlt' : j < (wipe τ vs).length := by rw [wipe_length]; exact hlt
                rw [List.getElem?_eq_getElem hlt']
                cases hz : (wipe τ vs)[j] with
                | none => rfl
                | some y =>
                  obtain ⟨_, z⟩ := wipe_some (σ := τ) (i := j) (vs := vs) (x := y) (by rw [List.getElem?_eq_getElem hlt', hz])
                  exact absurd hj z
              · rw [if_neg hlt, List.getElem?_eq_none (by rw [wipe_length]; omega)]
            rw [l1, l1, hl2, wipe_length]
          · rw [wipe_out hj, wipe_out hj, hj2 j fun z => hj (hidx j z), wipe_out hj]
        refine ⟨hwipe, D, τ, Bi, J3, .ok hcc fun H4 g4 => ?_⟩
        have J4 := J3.step g4
        have G4 : Go (F.with D) (wipe σ vs) H3 (wipeE e vs) Bc H4 := al2.go I3 J3 g4
        have I4 := I3.step G4
        have x4 : Ext F.T M (upd H1 D (.lst [])) H4 := (x2.trans (.same sm)).trans (G4.ext.mono fun a z => .inl ((bmw a).mp z))
        have hacc4 : H4 D = some (.lst acc) := G4.ext.keep D _ (sm D _ hacc) (fun z => nB ((bmw D).mp z)) (fun ps z => by cases z)
        have hda4 : DvAll F.K H4 (Pr (F.with D) (wipe σ vs) (wipeE e vs) (sf F.O me)) r acc := DvAll.thru G4.thru r (hda.same sm)
        cases b with
        | false =>
          refine ite_ff ?_
          cases hf
          cases hend
          exact ⟨r, _, acc, _, hcl, hr, x4, I4, hacc4, by omega, hda4⟩
        | true =>
          obtain ⟨y, By, hy, hf⟩ := PD.M.bind_ok hf
          cases hf
          cases hend
          refine ite_tt ⟨D, τ, Bc, J4, .ok hy fun H5 g5 v hv => ?_⟩
          have J5 := J4.step g5
          have G5 : Go (F.with D) (wipe σ vs) H4 (wipeE e vs) _ H5 := al2.go I3 J4 g5
          have I5 := I4.step G5
          have x5 : Ext F.T M (upd H1 D (.lst [])) H5 := x4.trans (G5.ext.mono fun a z => .inl ((bmw a).mp z))
          have hacc5 : H5 D = some (.lst acc) := G5.ext.keep D _ hacc4 (fun z => nB ((bmw D).mp z)) (fun ps z => by cases z)
          have hda5 : DvAll F.K H5 (Pr (F.with D) (wipe σ vs) (wipeE e vs) (sf F.O me)) r acc := DvAll.thru G5.thru r hda4
          have hv5 : Dv F.K H5 (Pr (F.with D) (wipe σ vs) (wipeE e vs) (sf F.O me)) y v := hv.dv.less fun a z => (al2.pr I3 J3 _ a).mpr z
          have xu : Ext F.T (fun a => a = D) H5 (upd H5 D (.lst (acc ++ [v]))) := .lst hacc5 rfl
          have pD : Pr (F.with D) (wipe σ vs) (wipeE e vs) (sf F.O me) D := (prw _ D).mpr (.inr rfl)
          refine ⟨acc, hacc5, by have := wk.len; omega, r ++ [y], rest2, acc ++ [v], _, hcl, by rw [List.append_assoc]; exact hr, x5.trans (xu.mono fun a z => .inr z), I5.updA hacc5 (.inr rfl) (I1.nw nwD) (fun z => nB ((bmw D).mp z)), upd_same, by rw [List.length_append]; simp; omega, ?_⟩
          exact DvAll.thru (xu.thru fun a z => by rw [z]; exact pD) _ (hda5.append (.cons hv5 .nil))
    · rintro H2 ⟨r, rest, acc, Bi, hcl, hr, x2, I2, hacc, hlen, hda⟩
      rw [List.drop_length] at hcl
      simp only [compL] at hcl
      cases hcl
      rw [List.append_nil] at hr
      subst hr
      have x3 : Ext F.T (Bm σ e) H1 H2 := by
        have ne : ∀ {a : Addr} {o : HO}, H1 a = some o → ¬ a = D := fun q z => by rw [z, hD] at q; cases q
        exact ⟨fun a o q n t => x2.keep a o (same_new hD _ _ q) (fun z => z.elim n (ne q)) t, fun a xs q => x2.tups a xs (same_new hD _ _ q), fun a o u q => x2.frzs a o u (same_new hD _ _ q), fun q => x2.tabs (q.ext (same_new hD))⟩
      have G : Go F σ H1 e Bend H2 := ⟨x3, fun i b h1 h2 => by
        have hi := (I1.bag i h1).1
        obtain ⟨_, b', e1, e2, _⟩ := I2.bag i (by rw [(al.l i hi).2]; exact h1)
        rw [(al.l i hi).1, h2] at e1
        cases e1
        exact e2⟩
      have hz : acc.length ≤ sizeLine := Nat.le_trans hlen wk.len
      have hda2 : DvAll F.K H2 (fun a => Pr F σ e (sf F.O me) a ∨ a = D) r acc := hda.less fun a z => (prw _ a).mpr z
      have hda' : DvAll F.K H2 (Pr F σ e (sf F.O me)) r acc := hda2.less fun a z => .inl z
      exact h H2 G (.ref D) (.mk' (b := sf F.O me) (by simp only [sf]) (by simp only [ss]) (.mkL (SqL.of hacc) (fun z => nD z.av) hz hda')) fun _ => ⟨r, D, acc, rfl, rfl, hacc, hz, Go.nw I g1 nwD, hda2⟩
theorem d_comp (hc : X.calm = true) (hN : X.N.Nodup) (hi : PI X tg iter (iD F W mi)) (ok : BlkOk X.N X.env.scope scope own) (hO : ∀ p ∈ own, p.2 ∉ F.O) (hidx : ∀ j ∈ t.idx, j ∈ own.map (·.2))
    (hg : ∀ (D : Addr) (s : Shared) (H : Hp) (C : Addr) (cl : List (Str × Addr)) (fp : List Addr), PG (X.blk s H scope (compEnvC scope cl C X.env) fp) tg (gD (F.with D) t))
    (ht : ∀ (D : Addr) (s : Shared) (H : Hp) (C : Addr) (cl : List (Str × Addr)) (fp : List Addr), PTs (X.blk s H scope (compEnvC scope cl C X.env) fp) ifs (tC (F.with D) (fun _ _ => False) mc))
    (he : ∀ (D : Addr) (s : Shared) (H : Hp) (C : Addr) (cl : List (Str × Addr)) (fp : List Addr), PE (X.blk s H scope (compEnvC scope cl C X.env) fp) elt (tD (F.with D) (fun _ _ => False) me))
    (hs : ∀ x, foldedSetIterable iter X.env x = pure x) :
    PE X (.ListComp elt [⟨tg, iter, ifs, 0⟩] scope pos) (tF F W (.comp me t mi mc (own.map (·.2)))) :=
  (pe_lc (g := fun v σ H K => ∃ D, gD (F.with D) t v σ H K) (tt := fun σ H Q => ∃ D, tC (F.with D) (fun _ _ => False) mc σ H Q) (te := fun σ H Q => ∃ D, tD (F.with D) (fun _ _ => False) me σ H Q) hc hN hi ok
    (fun s H C cl fp => ⟨fun pins s' σ H v u Q I r ⟨D, q⟩ => (hg D s _ C cl fp).run pins s' σ H v u Q I r q⟩)
    (fun s H C cl fp => ⟨fun pins s' σ H Q I ⟨D, q⟩ => (ht D s _ C cl fp).run pins s' σ H Q I q⟩)
    (fun s H C cl fp => ⟨fun pins s' σ H Q I ⟨D, q⟩ => (he D s _ C cl fp).run pins s' σ H Q I q⟩) hs).imp fun _ _ _ h => comp_read hO hidx h
/-- name = [..] on one line, the name a plain local -/
theorem s_comp {i : Nat} {y : Str} {py spos : Pos} (hc : X.calm = true) (hN : X.N.Nodup) (hy : X.N[i]? = some y) (hyl : X.env.scope.names.lookup y = some .local) (hsw : swapsWith (.ListComp elt [⟨tg, iter, ifs, 0⟩] scope pos) (some (.Name y py)) spos.line X.env = pure true)
    (hi : PI X tg iter (iD F W mi)) (ok : BlkOk X.N X.env.scope scope own) (hO : ∀ p ∈ own, p.2 ∉ F.O) (hidx : ∀ j ∈ t.idx, j ∈ own.map (·.2))
    (hg : ∀ (D : Addr) (s : Shared) (H : Hp) (C : Addr) (cl : List (Str × Addr)) (fp : List Addr), PG (X.blk s H scope (compEnvC scope cl C X.env) fp) tg (gD (F.with D) t))
    (ht : ∀ (D : Addr) (s : Shared) (H : Hp) (C : Addr) (cl : List (Str × Addr)) (fp : List Addr), PTs (X.blk s H scope (compEnvC scope cl C X.env) fp) ifs (tC (F.with D) (fun _ _ => False) mc))
    (he : ∀ (D : Addr) (s : Shared) (H : Hp) (C : Addr) (cl : List (Str × Addr)) (fp : List Addr), PE (X.blk s H scope (compEnvC scope cl C X.env) fp) elt (tD (F.with D) (fun _ _ => False) me))
    (hs : ∀ x, foldedSetIterable iter X.env x = pure x) :
    PS X (.Assign [.Name y py] (.ListComp elt [⟨tg, iter, ifs, 0⟩] scope pos) spos) (tAsg (tF F W (.comp me t mi mc (own.map (·.2)))) (gName i)) :=
  (ps_setLc (g := fun v σ H K => ∃ D, gD (F.with D) t v σ H K) (tt := fun σ H Q => ∃ D, tC (F.with D) (fun _ _ => False) mc σ H Q) (te := fun σ H Q => ∃ D, tD (F.with D) (fun _ _ => False) me σ H Q) hc hN hy hyl hsw hi ok
    (fun s H C cl fp => ⟨fun pins s' σ H v u Q I r ⟨D, q⟩ => (hg D s _ C cl fp).run pins s' σ H v u Q I r q⟩)
    (fun s H C cl fp => ⟨fun pins s' σ H Q I ⟨D, q⟩ => (ht D s _ C cl fp).run pins s' σ H Q I q⟩)
    (fun s H C cl fp => ⟨fun pins s' σ H Q I ⟨D, q⟩ => (he D s _ C cl fp).run pins s' σ H Q I q⟩) hs).imp fun _ _ _ h => comp_read hO hidx h
end
end PD
set_option linter.all false
set_option maxRecDepth 100000
set_option maxHeartbeats 1000000
/-! New lists: displays, sums, list(x), sorted(x), xs * k; join, split. -/
namespace PD
open PySem PySem.Spec PyProof.Rows L2
/-- as Out, a list being new -/
def OutF (K : PySem.W.Frag) (A : Addr → Prop) (H : Hp) (d : D) (Q : VK) : Prop := ∀ v H', Same H H' → Dv K H' A d v → ((∃ ds, d = .list ds) → Frs K A H H' d v) → Q v H'
theorem OutF.out {K : PySem.W.Frag} {A : Addr → Prop} {H : Hp} {d : D} {Q : VK} (q : OutF K A H d Q) (n : ∀ ds, d ≠ .list ds) : Out K A H d Q := fun v H' s h => q v H' s h fun ⟨ds, e⟩ => absurd e (n ds)
theorem new_thru' {K : PySem.W.Frag} {A : Addr → Prop} {H : Hp} {p : Addr} {o : HO} (h : H p = none) : Thru K H (upd H p o) A (fun a => A a ∨ a = p) := by
  refine ⟨fun a xs q => ?_, fun a xs q => (Thru.same (K := K) (A := A) (same_new h)).t a xs q⟩
  rcases q with q | ⟨o, q⟩ | q
  · exact .inl ⟨same_new h _ _ q.1, fun z => z.elim q.2 fun z => by rw [z, h] at q; cases q.1⟩
  · exact .inr (.inl ⟨o, same_new h _ _ q⟩)
  · exact .inr (.inr q)
theorem OutF.lst {K : PySem.W.Frag} {A : Addr → Prop} {H : Hp} {ds : List D} {Q : VK} {p : Addr} {xs : List V} (q : OutF K A H (.list ds) Q) (dA : Dom A H) (h : H p = none) (z : xs.length ≤ sizeLine) (t : DvAll K H A ds xs) : Q (.ref p) (upd H p (.lst xs)) :=
  q _ _ (same_new h) (.newL dA h z t) fun _ => ⟨ds, p, xs, rfl, rfl, upd_same, z, .of h, DvAll.thru (new_thru' h) ds t⟩
def rF1 (K : PySem.W.Frag) (f : D → Option D) : List V → Hp → VK → Prop := fun vs H Q => ∃ x, vs = [x] ∧ ∃ A dx d, Dom A H ∧ Di K H A dx x ∧ f dx = some d ∧ OutF K A H d Q
def rF2 (K : PySem.W.Frag) (f : D → D → Option D) : R2 := fun x y H Q => ∃ A dx dy d, Dom A H ∧ Di K H A dx x ∧ Di K H A dy y ∧ f dx dy = some d ∧ OutF K A H d Q
section
variable {X : Cx}
theorem op_addF : OpR X (binaryOp .Add) (rF2 X.K (binD .add)) := by
  intro pins s σ H x y v u Q I rx ry ⟨A, dx, dy, d, dA, hx, hy, hf, q⟩
  by_cases hl : ∃ xs ys, dx = .list xs ∧ dy = .list ys
  · obtain ⟨ds, es, rfl, rfl⟩ := hl
    simp only [binD] at hf
    split at hf
    · rename_i hz
      cases hf
      obtain ⟨a, xs, rfl, h1, z1, t1⟩ := hx.l
      obtain ⟨b, ys, rfl, h2, z2, t2⟩ := hy.l
      have hz' : xs.length + ys.length ≤ sizeLine := by rw [t1.length, t2.length]; exact hz
      exact op_catS pins s σ H _ _ v u Q I rx ry ⟨a, b, xs, ys, rfl, rfl, h1, h2, hz', fun p hp => q.lst dA hp (by rw [List.length_append]; exact hz') (t1.append t2)⟩
    · cases hf
  · refine op_binD .add pins s σ H x y v u Q I rx ry ⟨A, dx, dy, d, dA, hx, hy, hf, q.out fun ds e => hl ?_⟩
    subst e
    cases dx <;> cases dy <;> simp only [binD] at hf <;> try (cases hf; done)
    · split at hf <;> cases hf
    · exact ⟨_, _, rfl, rfl⟩
    · split at hf <;> cases hf
theorem call_listF : CallR X (.type "list") (rF1 X.K (bltD .list)) := by
  intro pins s σ H vs us Q I r ⟨x, e, A, dx, d, dA, hx, hf, q⟩
  subst e
  cases dx <;> simp only [bltD] at hf <;> try (cases hf; done)
  · cases hf
    obtain ⟨a, xs, rfl, h1, z1, t1⟩ := hx.l
    exact call_list_of pins s σ H _ us Q I r ⟨a, xs, rfl, .inl h1, fun p hp => q.lst dA hp z1 t1⟩
  · cases hf
    obtain ⟨a, xs, rfl, h1, z1, t1⟩ := hx.t
    exact call_list_of pins s σ H _ us Q I r ⟨a, xs, rfl, .inr h1, fun p hp => q.lst dA hp z1 t1⟩
end
section
variable {X : Cx} {F : Fx} {W : Nat → Hp → Prop} {pos p p2 : Pos} {a b c : Expr} {ma mb mc m : ME} {ms : MEs} {es : List Expr} {σ : Slots} {H H1 H' : Hp} {e : SEnv} {B B1 B' : Bg}
theorem outF_of {m : ME} {d : D} {Q : VK} {b : Bool} (I0 : SI F σ H e B) (g0 : Go F σ H e B1 H1) (e1 : sf F.O m = b) (e2 : ss F.O m = b)
    (h : ∀ H', Go F σ H1 e B1 H' → ∀ v, Rs F m σ e H' d v → ((∃ ds, d = .list ds) → Frs F.K (Pr F σ e (ss F.O m)) H H' d v) → Q v H') : OutF F.K (Pr F σ e b) H1 d Q :=
  fun v H' s hv fr => h H' ((I0.step g0).here.same s) v (.mk' e1 e2 hv) fun hl => by
    obtain ⟨ds, a, xs, q1, q2, q3, q4, q5, q6⟩ := fr hl
    exact ⟨ds, a, xs, q1, q2, q3, q4, Go.nw I0 g0 q5, by rw [e2]; exact q6⟩
theorem d_lstF (h : PA X es (tA F W ms)) (hn : ms.len ≤ 1000) : PE X (.List es pos) (tF F W (.lst ms)) := by
  refine (pe_lst (pa_len h)).imp fun σ H Q ⟨e, B, I, A⟩ => ?_
  simp only [ev] at A
  refine ⟨e, B, I, A.bind.imp fun ds B1 H1 g h vs hl hvs => ?_⟩
  have hl2 : vs.length ≤ sizeLine := by rw [hl, sizeLine_eq]; omega
  exact ⟨hl2, fun p hp => (outF_of (m := .lst ms) (b := sfs F.O ms) I g (by simp only [sf]) (by simp only [ss]) h).lst ((I.step g).domP _) hp hl2 hvs⟩
theorem d_tup' {k : Nat} (h : PA X es (tA F W ms)) (hn : ms.len ≤ 1000) : PE X (.Tuple es k pos) (tD F W (.tup ms)) := by
  refine (pe_tup (pa_len h)).imp fun σ H Q ⟨e, B, I, A⟩ => ?_
  simp only [ev] at A
  refine ⟨e, B, I, A.bind.imp fun ds B1 H1 g h vs hl hvs => ?_⟩
  have hl2 : vs.length ≤ sizeLine := by rw [hl, sizeLine_eq]; omega
  exact ⟨hl2, fun p hp => (out_of (m := .tup ms) (b := sfs F.O ms) (I.step g) (by simp only [sf]) (by simp only [ss]) h).tup hp hl2 hvs⟩
theorem d_addF (hK : X.K = F.K) (ha : PE X a (tD F W ma)) (hb : PE X b (tD F W mb)) : PE X (.BinOp a .Add b pos) (tF F W (.bin .add ma mb)) := by
  refine (pe_op op_addF ha hb).imp fun σ H Q ⟨e, B, I, A⟩ => ?_
  simp only [ev] at A
  refine ⟨e, B, I, A.bind.imp fun x B1 H1 g1 h1 v hv => ⟨e, B1, I.step g1, h1.bind.imp fun y B2 H2 g2 h2 w hw => ?_⟩⟩
  obtain ⟨d, hd, h⟩ := h2.ofO
  refine ⟨Pr F σ e (ss F.O ma && ss F.O mb), x, y, d, ((I.step g1).step g2).domP _, ?_, ?_, hd, ?_⟩
  · rw [hK]; exact (hv.go g2).ar fun h => by simp at h; exact h.1
  · rw [hK]; exact hw.ar fun h => by simp at h; exact h.2
  · rw [hK]; exact outF_of I (g1.trans g2) (by simp only [sf]) (by simp only [ss]) h
theorem d_listF {x : Str} (hK : X.K = F.K) (hg : Gl X x) (hm : X.mg x = none) (hv : bootBuiltins x = some (.type "list")) (ha : PE X a (tD F W ma)) (hp : plainE a = true) (hn : x ≠ "__name__") (hdb : (x == ("__debug__" : Str)) = false) :
    PE X (.Call (.Name x p) [a] [] pos) (tF F W (.blt .list ma)) := by
  refine (pe_callTy call_listF hg hm hv (pa_1 ha hp) hn hdb (star_plain hp)).imp fun σ H Q ⟨e, B, I, A⟩ => ?_
  simp only [ev] at A
  refine ⟨e, B, I, A.bind.imp fun x B1 H1 g1 h1 v hv => ?_⟩
  obtain ⟨d, hd, h⟩ := h1.ofO
  refine ⟨v, rfl, Pr F σ e (ss F.O ma), x, d, (I.step g1).domP _, ?_, hd, ?_⟩
  · rw [hK]; exact hv.di
  · rw [hK]; exact outF_of I g1 (by simp only [sf]) (by simp only [ss]) h
theorem After.on {α : Type} {x : M α} {P : α → Bg → Hp → Prop} (h : After F W σ H e x P) (g : Go F σ H e B H1) : After F W σ H1 e x P := by
  cases x with
  | stuck => exact h
  | err n => exact fun H' x => h H' (g.ext.trans x)
  | ok pr => exact fun H' g' => h H' (g.trans g')
/-- [..] * k -/
theorem d_lrepF (ha : PA X es (tA F W ms)) (hb : PE X b (tD F W mb)) (hn : ms.len ≤ 1000) : PE X (.BinOp (.List es p) .Mult b pos) (tF F W (.lrep ms mb)) := by
  -- the list within is tracked: it stands till it is multiplied
  have hl : PE X (.List es p) (fun σ H Q => ∃ e B, SI F σ H e B ∧ After F W σ H e (evs F.Γ ms e B) fun ds _ H1 => ∀ l xs H', Same H1 H' → H1 l = none → H' l = some (.lst xs) → DvAll F.K H' (Pr F σ e (sfs F.O ms)) ds xs → xs.length = ms.len → Q (.ref l) H') :=
    (pe_lst (pa_len ha)).imp fun σ H Q ⟨e, B, I, A⟩ => ⟨e, B, I, A.imp fun ds B1 H1 g h vs hl hvs => ⟨by rw [hl, sizeLine_eq]; omega, fun l hp => h l vs _ (same_new hp) hp upd_same (hvs.same (same_new hp)) hl⟩⟩
  refine (pe_op op_rep hl hb).imp fun σ H Q ⟨e, B, I, A⟩ => ?_
  simp only [ev] at A
  refine ⟨e, B, I, A.bind.imp fun ds B1 H1 g1 h1 l xs H1' sm hl hx hds hxl => ?_⟩
  have g1' := g1.same sm
  have I1 := I.step g1
  have h1 := (After.bind h1).on (I1.here.same sm)
  refine ⟨e, B1, I1.step (I1.here.same sm), h1.imp fun y B2 H2 g2 h2 w hw => ?_⟩
  have G2 := g1'.trans g2
  have I2 := I.step G2
  cases y with
  | int k =>
    simp only at h2
    split at h2
    · rename_i hk
      have nB : ¬ Bm σ e l := fun z => by
        obtain ⟨o, q, _⟩ := I1.domA l z.av
        rw [hl] at q; cases q
      have hx2 : H2 l = some (.lst xs) := g2.ext.keep l _ hx nB (fun ps z => by cases z)
      have hds2 : DvAll F.K H2 (Pr F σ e (sfs F.O ms)) ds xs := DvAll.thru g2.thru ds hds
      have hxn : xs.length ≤ 1000 := by rw [hds.length]; exact hk.2.2
      have a1 : xs.length * k.toNat ≤ 1000 * 1000 := Nat.mul_le_mul hxn (by omega)
      refine ⟨l, k, xs, rfl, hw.di.i, hx2, by omega, by omega, by rw [sizeLine_eq]; omega, fun p hp => ?_⟩
      refine (outF_of (m := .lrep ms mb) (b := sfs F.O ms) I G2 (by simp only [sf]) (by simp only [ss]) h2).lst (I2.domP _) hp ?_ (hds2.rep _)
      rw [PyProof.Rows.lm_len_rep_flat, sizeLine_eq, Nat.mul_comm]
      omega
    · exact h2.elim
  | _ => exact False.elim h2
/-! ### texts -/
theorem d_join {o : Expr} {mo : ME} {apos : Pos} (hK : X.K = F.K) (ho : PE X o (tD F W mo)) (ha : PE X a (tD F W ma)) (hp : plainE a = true) (hbase : attributeBase o "join" X.env (eval o X.env) = eval o X.env) (hline : (apos.endLine == pos.line) = true) :
    PE X (.Call (.Attribute o "join" apos) [a] [] pos) (tD F W (.join mo ma)) := by
  refine (pe_join ho ha (star_plain hp) hbase hline).imp fun σ H Q ⟨e, B, I, A⟩ => ?_
  simp only [ev] at A
  refine ⟨e, B, I, A.bind.imp fun x B1 H1 g1 h1 v hv => ?_⟩
  cases x with
  | str s =>
    refine ⟨⟨s, hv.di.s⟩, e, B1, I.step g1, (After.bind h1).imp fun y B2 H2 g2 h2 w hw => ?_⟩
    obtain ⟨d, hd, h⟩ := h2.ofO
    obtain ⟨ds, hy, hj⟩ := Option.bind_eq_some_iff.mp hd
    simp only [joinD, Option.bind_eq_some_iff] at hj
    obtain ⟨ys, hys, hj⟩ := hj
    split at hj
    · rename_i hz
      cases hj
      have fin := h H2 ((I.step g1).step g2).here (.str (Txt.join s ys)) (.ofV fun _ => .ofS _)
      cases y with
      | list ds' =>
        simp only [seqD] at hy
        cases hy
        obtain ⟨p', xs, rfl, q, z, t⟩ := hw.di.l
        refine ⟨s, p', ys, hv.di.s, rfl, .inl ?_, hz, fin⟩
        rw [hK, ← t.strs hys]; exact q
      | tuple ds' =>
        simp only [seqD] at hy
        cases hy
        obtain ⟨p', xs, rfl, q, z, t⟩ := hw.di.t
        refine ⟨s, p', ys, hv.di.s, rfl, .inr ?_, hz, fin⟩
        rw [hK, ← t.strs hys]; exact q
      | _ => simp only [seqD] at hy; cases hy
    · cases hj
  | _ => exact False.elim h1
theorem d_split {o : Expr} {mo : ME} {apos : Pos} (ho : PE X o (tD F W mo)) (ha : PE X a (tD F W ma)) (hp : plainE a = true) (hbase : attributeBase o "split" X.env (eval o X.env) = eval o X.env) (hline : (apos.endLine == pos.line) = true) :
    PE X (.Call (.Attribute o "split" apos) [a] [] pos) (tD F W (.split mo ma)) := by
  refine (pe_split ho ha (star_plain hp) hbase hline).imp fun σ H Q ⟨e, B, I, A⟩ => ?_
  simp only [ev] at A
  refine ⟨e, B, I, A.bind.imp fun x B1 H1 g1 h1 v hv => ?_⟩
  cases x with
  | str s =>
    refine ⟨⟨s, hv.di.s⟩, e, B1, I.step g1, (After.bind h1).imp fun y B2 H2 g2 h2 w hw => ?_⟩
    cases y with
    | str y =>
      simp only at h2
      split at h2
      · rename_i hz
        refine ⟨s, y, hv.di.s, by rw [hw.di.s], hz.1, hz.2.1, fun p' hp' => ?_⟩
        have z' : ((Txt.split s y).map V.str).length ≤ sizeLine := by rw [List.length_map]; exact hz.2.2
        exact (out_of (m := .split mo ma) (b := true) ((I.step g1).step g2) (by simp only [sf]) (by simp only [ss]) h2).lst (((I.step g1).step g2).domP _) hp' z' (.ofStrs _)
      · exact h2.elim
    | _ => exact False.elim h2
  | _ => exact False.elim h1
end
end PD
set_option linter.all false
set_option maxRecDepth 100000
set_option maxHeartbeats 4000000
/-! set(list of ints), sorted(set(list of ints)). -/
namespace PD
open PySem PySem.Spec PyProof.Rows L2
/-- an empty set's object -/
abbrev eSet (w : World) : Obj := { cls := .type "set", dict := none, data := .set #[] 0 (.fresh 0 0 (!w.params.followText "set-order")) }
section
variable {P : Program} {w : World} {A : Around} {E : Value → Shared → Prop} {s : Shared}
/-- what set(list) leaves -/
def Made (w : World) (s : Shared) (ns : List Int) (s₂ : Shared) : Prop := ∃ h' tk c, s₂ = { s with heap := h', toks := tk } ∧ SetR w h' s.heap.objs.size (fun j => decide (j ∈ ns)) c ∧ c ≤ ns.length ∧ ∀ b o, s.heap.get? b = some o → h'.get? b = some o
theorem fill_ints {a : Addr} {ys : Array Value} (ns : List Int) (hh : A.handled = none) (hl : s.heap.IsList a ys) (hi : IntsAre ys.toList ns) (hb : ns.length + 1 < scanBound)
    (ha : a < s.heap.objs.size) {q : Heap} (hq : q = (s.heap.push (eSet w)).push { cls := .type "list_iterator", data := .fields #[.ref a, .int 0 0] }) :
    codeAny (model P w) A (.builtin "set.update.loop" ⟨[.ref s.heap.objs.size, .ref (s.heap.objs.size + 1)], []⟩) (fun r s₂ => r = .ok (.ret .none) ∧ Made w s ns s₂) { s with heap := q } := by
  subst hq
  have z1 : (s.heap.push (eSet w)).objs.size = s.heap.objs.size + 1 := Heap.size_push ..
  have hsz : ys.size = ns.length := by
    have q := IntsAre.length hi
    rw [Array.length_toList] at q
    exact q
  have hne : a ≠ s.heap.objs.size + 1 := Nat.ne_of_lt (Nat.lt_succ_of_lt ha)
  have hout : s.heap.objs.size ∉ [s.heap.objs.size + 1, a] := by
    intro m
    rcases List.mem_cons.mp m with m | m
    · exact Nat.ne_of_lt (Nat.lt_succ_self _) m
    · exact Nat.ne_of_gt ha (List.mem_singleton.mp m)
  have hlist : ((s.heap.push (eSet w)).push { cls := .type "list_iterator", data := .fields #[.ref a, .int 0 0] }).IsList a ys := (hl.push _).push _
  have hit : ((s.heap.push (eSet w)).push { cls := .type "list_iterator", data := .fields #[.ref a, .int 0 0] }).IsListIter (s.heap.objs.size + 1) a 0 := by
    rw [← z1]
    exact ⟨_, Heap.get?_push_size _ rfl, rfl, rfl⟩
  have hset : ((s.heap.push (eSet w)).push { cls := .type "list_iterator", data := .fields #[.ref a, .int 0 0] }).get? s.heap.objs.size = some (eSet w) := Heap.get?_push_of_some _ (Heap.get?_push_size _ rfl)
  refine set_update_ints ((Walks.list (show A.in1.handled = none from hh) _ a hne ys).toS) s.heap.objs.size hout ns hsz hb (fun i v hv => ?_) (ys.size - 0) 0 _ (by omega) (Nat.zero_le _) ⟨hit, hlist⟩ ⟨0, Nat.le_refl 0, setR_new_at hset⟩ fun s' c hm hc hS => ?_
  · have hlt : i < ns.length := by rw [← hsz]; exact (Array.getElem?_eq_some_iff.mp hv).1
    obtain ⟨t, e⟩ := PyProof.Rows.IntsAre.int_at hi i v (by rw [Array.getElem?_toList]; exact hv)
    refine ⟨ns[i], t, List.getElem?_eq_getElem hlt, ?_⟩
    rw [e, List.getD_eq_getElem?_getD, List.getElem?_eq_getElem hlt]
    rfl
  · obtain ⟨h', g2, d', tk', os'⟩ := s'
    have eg : g2 = s.gens := hm.gens
    have ed : d' = s.drawn := hm.drawn
    have eo : os' = s.os := hm.os
    subst eg ed eo
    refine ⟨rfl, h', tk', c, rfl, hS, by omega, fun b o e => ?_⟩
    have hb0 : b < s.heap.objs.size := Heap.lt_size e
    refine hm.heap b o (fun m => ?_) (Heap.get?_push_of_some _ (Heap.get?_push_of_some _ e))
    rcases List.mem_cons.mp m with m | m
    · exact Nat.ne_of_lt hb0 m
    · exact Nat.ne_of_lt (Nat.lt_succ_of_lt hb0) (List.mem_singleton.mp m)
theorem call_set_ints {a : Addr} {ys : Array Value} (ns : List Int) {Q : Value → Shared → Prop} (hh : A.handled = none) (hl : s.heap.IsList a ys) (hi : IntsAre ys.toList ns) (hb : ns.length + 1 < scanBound)
    (h : ∀ s₂, Made w s ns s₂ → Q (.ref s.heap.objs.size) s₂) : wpAny (model P w) A (call (.type "set") [.ref a]) Q E s := by
  obtain ⟨c, tl, hmro⟩ := F.called_set.mro
  have k1 := F.called_set.made
  have k2 := F.called_set.sub
  have k3 := F.called_set.notType
  have k4 := F.called_set.canCreate
  have k5 := F.typeCall_set_1 (.ref a)
  refine wpAny_call (codeAny_of_tree ?_)
  show wpAny _ _ (callAny (.type "set") _) _ _ _
  refine wpAny_pure ⟨Code.quiet_builtin _ (by decide +kernel), codeAny_builtin F.entry_type_call ?_⟩
  rw [Around.under_plain (weight_type_call_type "set" [.ref a] []) rfl]
  repeat (any_goals (first | assumption | wp_step))
  refine codeAny_mono (code_set_led1 (.ref a) (E := E) (Q₁ := fun o s₁ => o = .ref s.heap.objs.size ∧ s₁ = { s with heap := s.heap.push (eSet w) }) ⟨rfl, rfl⟩) fun r s₁ hr => ?_
  cases r with
  | error e => exact hr
  | ok fl =>
    cases fl with
    | ret o =>
      obtain ⟨rfl, rfl⟩ := hr
      have g0 : (s.heap.push (eSet w)).get? s.heap.objs.size = some (eSet w) := Heap.get?_push_size _ rfl
      have g1 : Shared.TypeIs { s with heap := s.heap.push (eSet w) } (.ref s.heap.objs.size) "set" := ⟨_, g0, rfl⟩
      have k6 := F.called_set.init.lookup
      have k7 := F.called_set.init.bind (.ref s.heap.objs.size)
      repeat (any_goals (first | assumption | wp_step))
      refine codeAny_mono (codeAny_call_builtin (R := wants (fun r s₂ => r = .none ∧ Made w s ns s₂) E) F.called_set.init.plain F.entry_set_init (check_set_init_1 g1 ?_)) fun r₂ s₂ hr₂ => ?_
      · obtain ⟨⟨c1, d1, x1, y1⟩, hol, hcl, nl, hdl⟩ := id hl
        simp only at hcl hdl
        subst hcl hdl
        have g2 : (s.heap.push (eSet w)).get? a = some { cls := .type "list", dict := d1, data := .seq ys nl, slots := y1 } := Heap.get?_push_of_some _ hol
        have k8 := F.sub_list_set
        have k9 := F.sub_list_frozenset
        have k10 : (Value.type "list" == Value.type "dict") = false := by decide
        have g3 : (s.heap.push (eSet w)).IsList a ys := ⟨_, g2, rfl, nl, rfl⟩
        have z1 : (s.heap.push (eSet w)).objs.size = s.heap.objs.size + 1 := Heap.size_push ..
        unfold Builtin.«set.__init__» noKeywords Builtin.Frozenset.updateFrom
        generalize hPI : pyIter = PI
        wp_walk
        subst hPI
        refine wpAny_pyIter_list g3 (wpAny_bind (wpAny_runValue ?_))
        rw [z1]
        refine codeAny_mono (fill_ints (A := A.in1.in1) ns (by simp [hh]) hl hi hb (Heap.lt_size hol) rfl) fun r s' hr => ?_
        obtain ⟨rfl, hm⟩ := hr
        show wpAny _ _ _ _ _ _
        refine wpAny_pure ?_
        show wpAny _ _ (ret Value.none) _ _ _
        exact wpAny_pure ⟨rfl, hm⟩
      · cases r₂ with
        | error e => exact hr₂
        | ok fl₂ =>
          cases fl₂ with
          | ret r =>
            obtain ⟨rfl, hm⟩ := hr₂
            repeat (any_goals (first | assumption | wp_step))
            exact h _ hm
          | _ => exact hr₂.elim
    | _ => exact hr.elim
end
end PD
set_option linter.all false
set_option maxRecDepth 100000
set_option maxHeartbeats 1000000
/-! Readings: sorted(set(ints)), x[::-1]. -/
namespace PD
open PySem PySem.Spec PyProof.Rows L2
theorem onceI_mem : ∀ {xs : List Int} {k : Int}, k ∈ onceI xs ↔ k ∈ xs
  | [], _ => by simp [onceI]
  | x :: r, k => by
    unfold onceI
    split
    · rename_i h
      rw [onceI_mem, List.mem_cons]
      exact ⟨.inr, fun q => q.elim (fun q => by rw [q]; exact h) _root_.id⟩
    · rw [List.mem_cons, onceI_mem, List.mem_cons]
theorem onceI_nodup : ∀ xs : List Int, (onceI xs).Nodup
  | [] => by simp [onceI]
  | x :: r => by
    unfold onceI
    split
    · exact onceI_nodup r
    · rename_i h
      exact List.nodup_cons.mpr ⟨fun q => h (onceI_mem.mp q), onceI_nodup r⟩
theorem lt_of_le_nodup : ∀ {xs : List Int}, xs.Pairwise (· ≤ ·) → xs.Nodup → xs.Pairwise (· < ·)
  | [], _, _ => .nil
  | x :: r, h, n => by
    obtain ⟨h1, h2⟩ := List.pairwise_cons.mp h
    obtain ⟨n1, n2⟩ := List.nodup_cons.mp n
    refine List.pairwise_cons.mpr ⟨fun y hy => ?_, lt_of_le_nodup h2 n2⟩
    have := h1 y hy
    have : x ≠ y := fun e => n1 (by rw [e]; exact hy)
    omega
theorem strict_one : ∀ {xs ys : List Int}, xs.Pairwise (· < ·) → ys.Pairwise (· < ·) → (∀ k, k ∈ xs ↔ k ∈ ys) → xs = ys
  | [], [], _, _, _ => rfl
  | [], y :: ys, _, _, h => absurd ((h y).mpr List.mem_cons_self) (by simp)
  | x :: xs, [], _, _, h => absurd ((h x).mp List.mem_cons_self) (by simp)
  | x :: xs, y :: ys, h1, h2, h => by
    obtain ⟨a1, a2⟩ := List.pairwise_cons.mp h1
    obtain ⟨b1, b2⟩ := List.pairwise_cons.mp h2
    have e : x = y := by
      have m1 := (h x).mp List.mem_cons_self
      have m2 := (h y).mpr List.mem_cons_self
      rcases List.mem_cons.mp m1 with e | m1
      · exact e
      · rcases List.mem_cons.mp m2 with e | m2
        · exact e.symm
        · have := a1 y m2
          have := b1 x m1
          omega
    subst e
    rw [strict_one a2 b2 fun k => ?_]
    have := h k
    rw [List.mem_cons, List.mem_cons] at this
    constructor
    · intro m
      rcases this.mp (.inr m) with e | q
      · have := a1 k m; omega
      · exact q
    · intro m
      rcases this.mpr (.inr m) with e | q
      · have := b1 k m; omega
      · exact q
section
variable {X : Cx}
def rSetI (K : PySem.W.Frag) (w : World) : List V → Hp → VK → Prop := fun vs H Q => ∃ (a : Addr) (ns : List Int), vs = [V.ref a] ∧ SqL K H a (ns.map V.int) ∧ ns.length < 60 ∧ ∀ p c, H p = none → c ≤ ns.length → Q (.ref p) (upd H p (SetO w p (fun j => decide (j ∈ ns)) c))
theorem cr_setI (hc : X.calm = true) : CallR X (.type "set") (rSetI X.K X.w) := by
  intro pins s σ H vs us Q I r ⟨a, ns, e, hl, hf, q⟩
  subst e
  obtain ⟨u, rfl, ru⟩ := r.one
  cases ru
  obtain ⟨its, rv, p, hz⟩ := I.list hl
  refine call_set_ints ns (I.ok.hd hc) p.isList (by have := ints_of_vals rv; simpa using this) (by unfold scanBound; omega) fun s₂ hm => ?_
  obtain ⟨h', tk, c, rfl, hS, hcl, hk⟩ := hm
  have I2 : Inv X pins σ (upd H s.heap.objs.size (SetO X.w s.heap.objs.size (fun j => decide (j ∈ ns)) c)) { s with heap := h', toks := tk } := I.laid (t' := tk) hk (Nat.le_refl _) (setO_new hS)
  exact ⟨.ref _, _, I2, rfl, q _ c (I.hok.fresh (Nat.le_refl _)) hcl⟩
end
section
variable {X : Cx} {F : Fx} {W : Nat → Hp → Prop} {pos p p2 p3 : Pos} {a b c : Expr} {ma mb mc m : ME} {σ : Slots} {H : Hp}
theorem boot_set : bootBuiltins "set" = some (.type "set") := by decide +kernel
theorem boot_sorted : bootBuiltins "sorted" = some (.builtin "sorted") := by decide +kernel
theorem d_sset (hc : X.calm = true) (hK : X.K = F.K) (hg : Gl X "sorted") (hm : X.mg "sorted" = none) (hg2 : Gl X "set") (hm2 : X.mg "set" = none) (ha : PE X a (tD F W ma)) (hp : plainE a = true) :
    PE X (.Call (.Name "sorted" p) [.Call (.Name "set" p2) [a] [] p3] [] pos) (tD F W (.blt .sset ma)) := by
  have h1 : PE X (.Call (.Name "set" p2) [a] [] p3) (tCB (rSetI X.K X.w) (tCons (tD F W ma) tNil)) := pe_callTy (cr_setI hc) hg2 hm2 boot_set (pa_1 ha hp) (by decide) (by decide) (star_plain hp)
  refine (pe_callB (cr_sortedSet hc) hg hm boot_sorted (pa_cons h1 pa_nil rfl) (by decide) (by decide) rfl).imp fun σ H Q ⟨e, B, I, A⟩ => ?_
  simp only [ev] at A
  refine ⟨e, B, I, A.bind.imp fun x B1 H1 g h v hv => ?_⟩
  have I1 := I.step g
  obtain ⟨d, hd, k⟩ := h.ofO
  cases x with
  | list ds =>
    simp only [bltD, ssetD, Option.bind_eq_some_iff] at hd
    obtain ⟨ns, hns, hd⟩ := hd
    split at hd
    · rename_i hlen
      cases hd
      obtain ⟨a', xs, rfl, q, z, t⟩ := hv.di.l
      rw [t.ints hns] at q
      refine ⟨a', ns, rfl, by rw [hK]; exact q, hlen, fun p1 c hp1 hcn => ⟨p1, _, c, rfl, upd_same, by omega, fun ms p2 hs hmem hl hp2 => ?_⟩⟩
      have e1 : ms = sortI (onceI ns) := by
        refine strict_one hs (lt_of_le_nodup (sortI_le _) ((sortI_perm _).nodup_iff.mpr (onceI_nodup _))) fun k => ?_
        rw [hmem k, decide_eq_true_eq, (sortI_perm _).mem_iff, onceI_mem]
      subst e1
      have s1 : Same H1 (upd H1 p1 (SetO X.w p1 (fun j => decide (j ∈ ns)) c)) := same_new hp1
      have I2 := I1.step (I1.here.same s1)
      exact (out_of (m := .blt .sset ma) (b := ss F.O ma) I2 (by simp only [sf]) (by simp only [ss]) fun H' g' v' hv' => k H' ((I1.here.same s1).trans g') v' hv').lst (I2.domP _) hp2 (by rw [List.length_map, hl, sizeLine_eq]; omega) (.ofInts _)
    · cases hd
  | _ => simp only [bltD] at hd; cases hd
theorem d_rev {k : Nat} (hK : X.K = F.K) (ha : PE X a (tD F W ma)) : PE X (.Subscript a (.Slice none none (some (.UnaryOp .USub (.Constant (.int 1) k p) p2)) p3) pos) (tD F W (.blt .rev ma)) := by
  refine (pe_rvA ha).imp fun σ H Q ⟨e, B, I, A⟩ => ?_
  simp only [ev] at A
  refine ⟨e, B, I, A.bind.imp fun x B1 H1 g h v hv => ?_⟩
  have I1 := I.step g
  obtain ⟨d, hd, h⟩ := h.ofO
  have o := out_of (m := .blt .rev ma) (b := ss F.O ma) I1 (by simp only [sf]) (by simp only [ss]) h
  cases x with
  | list ds =>
    simp only [bltD, Option.some.injEq] at hd
    subst hd
    obtain ⟨a', xs, rfl, q, z, t⟩ := hv.di.l
    exact ⟨a', xs, rfl, .inl ⟨by rw [hK]; exact q, fun p hp => o.lst (I1.domP _) hp (by rw [List.length_reverse]; exact z) t.reverse⟩⟩
  | tuple ds =>
    simp only [bltD, Option.some.injEq] at hd
    subst hd
    obtain ⟨a', xs, rfl, q, z, t⟩ := hv.di.t
    exact ⟨a', xs, rfl, .inr ⟨by rw [hK]; exact q, fun p hp => o.tup hp (by rw [List.length_reverse]; exact z) t.reverse⟩⟩
  | _ => simp only [bltD] at hd; cases hd
end
end PD
set_option linter.all false
set_option maxRecDepth 100000
set_option maxHeartbeats 1000000
/-! f-strings, a list's tail from its end, list(range). -/
namespace PD
open PySem PySem.Spec PyProof.Rows L2
section
variable {X : Cx} {F : Fx} {W : Nat → Hp → Prop} {pos p p2 p3 p4 : Pos} {a b c : Expr} {ma mb mc m : ME} {σ : Slots} {H : Hp}
theorem d_fmt (ha : PE X a (tD F W ma)) : PE X (.FormattedValue a (-1) none pos) (tD F W (.blt .fmt ma)) := by
  refine (pe_fmt ha).imp fun σ H Q ⟨e, B, I, A⟩ => ?_
  simp only [ev] at A
  refine ⟨e, B, I, A.bind.imp fun x B1 H1 g h v hv => ?_⟩
  have I1 := I.step g
  obtain ⟨d, hd, h⟩ := h.ofO
  cases x with
  | int i =>
    simp only [bltD] at hd
    split at hd
    · rename_i hl
      cases hd
      refine .inr ⟨i, hv.dv, hl, h H1 I1.here _ (.ofV fun _ => .ofS _)⟩
    · cases hd
  | str y =>
    simp only [bltD] at hd
    split at hd
    · rename_i hl
      cases hd
      refine .inl ⟨y, hv.dv, hl, h H1 I1.here _ (.ofV fun _ => .ofS _)⟩
    · cases hd
  | _ => simp only [bltD] at hd; cases hd
/-- the parts' readings -/
def tDs (F : Fx) (W : Nat → Hp → Prop) : MEs → List TE
  | .nil => []
  | .cons m r => tD F W m :: tDs F W r
theorem js_run : ∀ (ms : MEs) (acc : Str) (σ : Slots) (H : Hp) (e : SEnv) (B : Bg) (Q : Str → Hp → Prop), SI F σ H e B → After F W σ H e (evj F.Γ ms acc e B) (fun y _ H' => Q y H') → tJs (tDs F W ms) acc σ H Q
  | .nil, acc, σ, H, e, B, Q, I, A => by
    simp only [evj] at A
    exact A H I.here
  | .cons m r, acc, σ, H, e, B, Q, I, A => by
    simp only [evj] at A
    refine ⟨e, B, I, A.bind.imp fun x B1 H1 g h v hv => ?_⟩
    have I1 := I.step g
    cases x with
    | str y =>
      have hv' : v = .str y := hv.dv
      refine ⟨y, hv', ?_⟩
      by_cases hl : (acc ++ y).length ≤ sizeLine
      · simp only [hl, if_true] at h
        exact ⟨hl, js_run r (acc ++ y) σ H1 e B1 Q I1 h⟩
      · simp only [hl, if_false] at h
        exact (show False from h).elim
    | _ => exact (show False from h).elim
theorem d_js {es : List Expr} {ms : MEs} (h : PJ X (a :: b :: es) (tDs F W ms)) : PE X (.JoinedStr (a :: b :: es) pos) (tD F W (.js ms)) := by
  refine (pe_joined h).imp fun σ H Q ⟨e, B, I, A⟩ => ?_
  simp only [ev] at A
  refine js_run ms Str.empty σ H e B _ I (A.bind.imp fun y B1 H1 g k => ?_)
  have I1 := I.step g
  exact k H1 I1.here _ (.ofV fun _ => .ofS _)
theorem rev_pick (items : Array Value) : slicePick items none (some 0) (some (-1)) = items.toList.tail.reverse.toArray := by
  have hb : sliceBounds none (some 0) (some (-1)) items.size = ((items.size : Int) - 1, max (-1) (min 0 ((items.size : Int) - 1)), -1) := by
    first
    | rfl
    | simp [sliceBounds]
  unfold slicePick
  rw [hb]
  show ((sliceRange ((items.size : Int) - 1) (max (-1) (min 0 ((items.size : Int) - 1))) (-1)).filterMap (items[·]?)).toArray = _
  congr 1
  have h1 : ¬ ((-1 : Int) > 0) := by decide
  by_cases hz : items.size = 0
  · have e : items.toList = [] := by
      have : items.toList.length = 0 := by rw [Array.length_toList]; exact hz
      exact List.length_eq_zero_iff.mp this
    rw [e, hz]
    rfl
  · have e0 : max (-1) (min 0 ((items.size : Int) - 1)) = 0 := by omega
    rw [e0]
    have e1 : sliceRange ((items.size : Int) - 1) 0 (-1) = (List.range (items.size - 1)).map fun k => items.size - 1 - k := by
      unfold sliceRange
      by_cases h : (items.size : Int) - 1 > 0
      · have e : ((items.size : Int) - 1 - 0 - -1 - 1) / (- -1) = ((items.size - 1 : Nat) : Int) := by
          rw [show (- -1 : Int) = 1 by decide, Int.ediv_one]
          omega
        simp only [h1, if_false, h, if_true, e, Int.toNat_natCast]
        apply List.map_congr_left
        intro k hk
        have := List.mem_range.mp hk
        omega
      · have e : items.size = 1 := by omega
        rw [e]; rfl
    rw [e1]
    apply List.ext_getElem?
    intro i
    rw [List.filterMap_map]
    have hall : ∀ k ∈ List.range (items.size - 1), ((items[·]?) ∘ fun k => items.size - 1 - k) k = some (items.toList.tail.reverse.getD k Value.none) := by
      intro k hk
      have hk := List.mem_range.mp hk
      have hl : k < items.toList.tail.reverse.length := by simp; omega
      simp only [Function.comp]
      rw [List.getD_eq_getElem?_getD, List.getElem?_eq_getElem hl, Option.getD_some, List.getElem_reverse, List.getElem_tail]
      rw [Array.getElem?_eq_getElem (by omega)]
      congr 1
      rw [Array.getElem_toList]
      congr 1
      simp
      omega
    have e2 : (List.range (items.size - 1)).filterMap ((items[·]?) ∘ fun k => items.size - 1 - k) = (List.range (items.size - 1)).map fun k => items.toList.tail.reverse.getD k Value.none := by
      rw [fm_same hall]
      exact List.filterMap_eq_map (f := fun k => items.toList.tail.reverse.getD k Value.none) ▸ rfl
    rw [e2]
    have hl : items.toList.tail.reverse.length = items.size - 1 := by simp
    by_cases hi : i < items.size - 1
    · rw [List.getElem?_map, List.getElem?_range hi, Option.map_some, List.getD_eq_getElem?_getD, List.getElem?_eq_getElem (by omega)]
      rfl
    · rw [List.getElem?_eq_none (by simp; omega), List.getElem?_eq_none (by omega)]
theorem paired_tail {α β : Type} {R : α → β → Prop} {xs : List α} {ys : List β} (r : Paired R xs ys) : Paired R xs.tail ys.tail := by
  cases r with
  | nil => exact .nil
  | cons _ t => exact t
theorem dvAll_tail {K : PySem.W.Frag} {H : Hp} {A : Addr → Prop} {ds : List D} {vs : List V} (h : DvAll K H A ds vs) : DvAll K H A ds.tail vs.tail := by
  cases ds with
  | nil =>
    have : vs = [] := h
    subst this; exact h
  | cons d ds =>
    obtain ⟨v, r, rfl, _, t⟩ := h
    exact t
theorem rangeD_map (lo : Int) : ∀ n, rangeD lo n = ((List.range n).map fun (k : Nat) => lo + (k : Int)).map PyData.int
  | 0 => rfl
  | n + 1 => by
    rw [rangeD, rangeD_map (lo + 1) n, List.range_succ_eq_map]
    simp
    intro a ha
    omega
/-- a list's tail from its end -/
def tRvB (K : PySem.W.Frag) (te : TE) : TE := fun σ H Q => te σ H fun x H1 => ∃ a xs, x = .ref a ∧ SqL K H1 a xs ∧ ∀ p, H1 p = none → Q (.ref p) (upd H1 p (.lst xs.tail.reverse))
theorem pe_rvB {te : TE} {e : Expr} {k k2 : Nat} {p1 p2 p3 p4 pos : Pos} (he : PE X e te) : PE X (.Subscript e (.Slice none (some (.Constant (.int 0) k2 p4)) (some (.UnaryOp .USub (.Constant (.int 1) k p1) p2)) p3) pos) (tRvB X.K te) := by
  refine ⟨fun pins s σ H Q I h => Subscript_ (thn (he.run pins s σ H _ I h) fun v s1 ⟨x, H1, I1, r1, q1⟩ => ?_)⟩
  obtain ⟨a, xs, ex, hx, q⟩ := q1
  subst ex
  cases r1
  have hst : PO X (some (.UnaryOp .USub (.Constant (.int 1) k p1) p2)) (tPart (tUn (rU fun i => .int (-i)) (L2.tC (.int 1)))) := po_some (pe_un un_neg pe_int)
  have hup : PO X (some (.Constant (.int 0) k2 p4)) (tPart (L2.tC (.int 0))) := po_some pe_int
  refine wpAny_Slice (thn (po_none.run pins s1 σ H1 (fun o G => o = none ∧ G = H1) I1 ⟨rfl, rfl⟩) fun vl s2 ⟨l, H2, I2, pl, el, e2⟩ => ?_)
  subst el e2
  refine thn (hup.run pins s2 σ H2 (fun o G => o = some 0 ∧ G = H2) I2 ⟨0, rfl, rfl, rfl⟩) fun vu s3 ⟨u, H3, I3, pu, eu, e3⟩ => ?_
  subst eu e3
  refine thn (hst.run pins s3 σ H3 (fun o G => o = some (-1) ∧ G = H3) I3 ⟨1, rfl, -1, rfl, rfl, rfl⟩) fun vs s4 ⟨o, H4, I4, ps, eo, e4⟩ => ?_
  subst eo e4
  have I5 : Inv X pins σ H4 { s4 with heap := s4.heap.push { cls := .type "slice", data := .fields #[vl, vu, vs] } } := I4.kept (t' := s4.toks) fun b ob q => Heap.get?_push_of_some _ q
  have fr := I5.hok.fresh (Nat.le_refl _)
  obtain ⟨its, r, ht, hz⟩ := I5.list hx
  have hl := r.length
  show wpAny (model X.prog X.w) X.A (subscriptTail e (.Slice none (some (.Constant (.int 0) k2 p4)) (some (.UnaryOp .USub (.Constant (.int 1) k p1) p2)) p3) (.ref a) (.ref s4.heap.objs.size)) _ X.xe _
  refine tail_any (ops := [.ref a, .ref s4.heap.objs.size]) ht.isList.typeIs (PySem.slot_list_getitem.lookup) ?_ (by with_unfolding_all rfl)
  refine wpAny_getItem_list_slice ht.isList (Heap.IsSliceOf.new _ vl vu vs) pl pu ps (by decide) ?_ (by rw [List.size_toArray]; omega)
  rw [rev_pick]
  exact ⟨.ref _, _, I5.laid (t' := s4.toks) (o := .lst xs.tail.reverse) (fun b ob q => Heap.get?_push_of_some _ q) (Nat.le_refl _) ⟨by rw [List.length_reverse, List.length_tail]; omega, _, 0, (show Vals xs.tail its.tail from paired_tail r).reverse, Heap.get?_push_size _ rfl⟩, rfl, q _ fr⟩
theorem d_revt {k k2 : Nat} (hK : X.K = F.K) (ha : PE X a (tD F W ma)) : PE X (.Subscript a (.Slice none (some (.Constant (.int 0) k2 p4)) (some (.UnaryOp .USub (.Constant (.int 1) k p) p2)) p3) pos) (tD F W (.blt .revt ma)) := by
  refine (pe_rvB ha).imp fun σ H Q ⟨e, B, I, A⟩ => ?_
  simp only [ev] at A
  refine ⟨e, B, I, A.bind.imp fun x B1 H1 g h v hv => ?_⟩
  have I1 := I.step g
  obtain ⟨d, hd, h⟩ := h.ofO
  have o := out_of (m := .blt .revt ma) (b := ss F.O ma) I1 (by simp only [sf]) (by simp only [ss]) h
  cases x with
  | list ds =>
    simp only [bltD, Option.some.injEq] at hd
    subst hd
    obtain ⟨a', xs, rfl, q, z, t⟩ := hv.di.l
    exact ⟨a', xs, rfl, by rw [hK]; exact q, fun p hp => o.lst (I1.domP _) hp (by rw [List.length_reverse, List.length_tail]; omega) (dvAll_tail t).reverse⟩
  | _ => simp only [bltD] at hd; cases hd
theorem d_lrng (hc : X.calm = true) (hK : X.K = F.K) (hg : Gl X "list") (hm : X.mg "list" = none) (hg2 : Gl X "range") (hm2 : X.mg "range" = none) (ha : PE X a (tD F W ma)) (hp : plainE a = true) :
    PE X (.Call (.Name "list" p) [.Call (.Name "range" p2) [a] [] p3] [] pos) (tD F W (.blt .lrng ma)) := by
  refine (pe_listRg hc hg hm (prg_1 hg2 hm2 ha (star_plain hp))).imp fun σ H Q ⟨e, B, I, A⟩ => ?_
  simp only [ev] at A
  refine ⟨e, B, I, A.bind.imp fun x B1 H1 g h v hv => ?_⟩
  have I1 := I.step g
  obtain ⟨d, hd, h⟩ := h.ofO
  cases x with
  | int j =>
    simp only [bltD] at hd
    split at hd
    · rename_i hr
      cases hd
      simp only [rngOk, Bool.and_eq_true, decide_eq_true_eq] at hr
      refine ⟨j, hv.dv, ⟨by omega, by omega, by omega, by omega, by omega⟩, fun q hq => ?_⟩
      have o := out_of (m := .blt .lrng ma) (b := ss F.O ma) I1 (by simp only [sf]) (by simp only [ss]) h
      have e1 : rgV 0 j = ((List.range j.toNat).map fun (k : Nat) => (0 : Int) + (k : Int)).map V.int := by
        unfold rgV
        rw [List.map_map, Int.sub_zero]
        rfl
      rw [e1]
      rw [rangeD_map] at o
      exact o.lst (I1.domP _) hq (by simp only [List.length_map, List.length_range, sizeLine_eq]; omega) (.ofInts _)
    · cases hd
  | _ => simp only [bltD] at hd; cases hd
end
end PD
set_option linter.all false
set_option maxRecDepth 100000
set_option maxHeartbeats 1000000
/-! Statements. -/
namespace PD
open PySem PySem.Spec PyProof.Rows L2
/-- what a value that is given back must be -/
structure RetOk (F : Fx) (new : Bool) (d : D) (v : V) (H' : Hp) (B' : Bg) : Prop where
  ext : Ext F.T (fun a => F.b0 = some a) F.H0 H'
  bag : ∀ b, F.b0 = some b → H' b = some (.lst (B'.map V.int))
  dv : Dv F.K H' F.A0 d v
  new : new = true → (∃ ds, d = .list ds) → Frs F.K F.A0 F.H0 H' d v
def Wish (F : Fx) (W : Nat → Hp → Prop) (new : Bool) (r : M Fl) (E : Ends) : Prop := match r with
  | .ok (.nx e', B') => ∀ σ' H', SI F σ' H' e' B' → E.nx σ' H'
  | .ok (.rt d, B') => ∀ v H', RetOk F new d v H' B' → E.rt v H'
  | .err c => ∀ H', Ext F.T (fun a => F.b0 = some a) F.H0 H' → W c H'
  | .stuck => False
def tS (F : Fx) (W : Nat → Hp → Prop) (new : Bool) (m : MS) : TS := fun E σ H => ∃ e B, SI F σ H e B ∧ Wish F W new (evS F.Γ m e B) E
def tSs (F : Fx) (W : Nat → Hp → Prop) (new : Bool) (m : MSs) : TS := fun E σ H => ∃ e B, SI F σ H e B ∧ Wish F W new (evSs F.Γ m e B) E
section
variable {F : Fx} {W : Nat → Hp → Prop} {σ σ' : Slots} {H H1 H2 H' : Hp} {e e' : SEnv} {B B1 B2 B' : Bg} {new : Bool} {E : Ends} {α : Type}
theorem SI.err (I : SI F σ H e B) (x : Ext F.T (Bm σ e) H H') : Ext F.T (fun a => F.b0 = some a) F.H0 H' :=
  ⟨fun a o h n t => x.keep a o (I.ext.keep a o h n t) (I.noBm h n t) t, fun a xs h => x.tups a xs (I.ext.tups a xs h), fun a o u h => x.frzs a o u (I.ext.frzs a o u h), fun h => x.tabs (I.ext.tabs h)⟩
theorem Wish.after {x : M α} {f : α → Bg → M Fl} (h : Wish F W new (x.bind f) E) (I : SI F σ H e B) : After F W σ H e x fun a B1 H1 => Wish F W new (f a B1) E := by
  cases x with
  | stuck => exact h
  | err c => exact fun H' x => h H' (I.err x)
  | ok p => exact fun H' g => h
theorem SI.ret (I : SI F σ H e B) {d : D} {v : V} (hv : Dv F.K H F.A0 d v) : RetOk F false d v H B :=
  ⟨I.ext, fun b h => by
    obtain ⟨i, h1, h2⟩ := I.b0 b h
    obtain ⟨_, b', e1, e2, _⟩ := I.bag i h1
    rw [h2] at e1; cases e1
    exact e2, hv, fun z => (by cases z)⟩
/-! ### lists that are written -/
theorem Own.av {i : Nat} {a : Addr} (h : Own e i) (h2 : σ[i]? = some (some (.ref a))) : Av F σ e a := .inr ⟨i, h, h2⟩
/-- the list of a slot is written -/
theorem SI.wrO (I : SI F σ H e B) {i : Nat} {ds ds' : List D} {a : Addr} {xs xs' : List V} (he : e[i]? = some (.own ds)) (hs : σ[i]? = some (some (.ref a))) (hx : H a = some (.lst xs)) (z : xs'.length ≤ sizeLine) (t : DvAll F.K H (Av F σ e) ds' xs') :
    SI F σ (upd H a (.lst xs')) (e.set i (.own ds')) B := by
  have hi : i < e.length := by
    obtain ⟨h, _⟩ := List.getElem?_eq_some_iff.mp he
    exact h
  have ne_ : ∀ {j : Nat}, j ≠ i → (e.set i (.own ds'))[j]? = e[j]? := fun n => by rw [List.getElem?_set, if_neg (fun w => n w.symm)]
  have at_ : (e.set i (.own ds'))[i]? = some (.own ds') := by rw [List.getElem?_set, if_pos rfl, if_pos hi]
  have ow : ∀ j, Own (e.set i (.own ds')) j ↔ Own e j := fun j => by
    by_cases hj : j = i
    · subst hj
      exact ⟨fun _ => .inr ⟨ds, he⟩, fun _ => .inr ⟨ds', at_⟩⟩
    · unfold Own; rw [ne_ hj]
  have bg : ∀ j : Nat, ((e.set i (.own ds'))[j]? = some Sl.bag) ↔ (e[j]? = some Sl.bag) := fun j => by
    by_cases hj : j = i
    · subst hj
      rw [at_, he]
      exact ⟨fun h => (by cases h), fun h => (by cases h)⟩
    · rw [ne_ hj]
  have av : ∀ x, Av F σ (e.set i (.own ds')) x ↔ Av F σ e x := fun x => by
    constructor
    · rintro (h | ⟨j, h1, h2⟩)
      · exact .inl h
      · exact .inr ⟨j, (ow j).mp h1, h2⟩
    · rintro (h | ⟨j, h1, h2⟩)
      · exact .inl h
      · exact .inr ⟨j, (ow j).mpr h1, h2⟩
  have bm : ∀ x, Bm σ (e.set i (.own ds')) x ↔ Bm σ e x := fun x => ⟨fun ⟨j, h1, h2⟩ => ⟨j, (bg j).mp h1, h2⟩, fun ⟨j, h1, h2⟩ => ⟨j, (bg j).mpr h1, h2⟩⟩
  have aAv : Av F σ e a := Own.av (.inr ⟨ds, he⟩) hs
  have x : Ext F.T (fun b => b = a) H (upd H a (.lst xs')) := .lst hx rfl
  have th0 : Thru F.K H (upd H a (.lst xs')) (Av F σ e) (Av F σ e) := x.thru fun b q => by rw [q]; exact aAv
  have th : Thru F.K H (upd H a (.lst xs')) (Av F σ e) (Av F σ (e.set i (.own ds'))) := ⟨fun b ys q => (th0.l b ys q).less fun y q => (av y).mp q, th0.t⟩
  obtain ⟨hO, a', xs0, q1, q2, q3, q4, nw, nb⟩ := I.own i ds he
  rw [hs] at q1
  cases q1
  have ne : ∀ {b : Addr}, ¬ b = a → (upd H a (.lst xs')) b = H b := fun n => upd_ne n
  refine ⟨by rw [List.length_set]; exact I.len, ⟨fun b o h n t => ?_, fun b ys h => x.tups b ys (I.ext.tups b ys h), fun b o u h => x.frzs b o u (I.ext.frzs b o u h), fun h => x.tabs (I.ext.tabs h)⟩, x.tabs I.tabs, fun b q => ?_, fun j d q => ?_, fun j es q => ?_, fun j q => ?_, fun j k b h1 h2 => I.inj j k b ((ow j).mp h1) ((ow k).mp h2), fun j k h1 h2 => I.one j k ((bg j).mp h1) ((bg k).mp h2), fun b h => ?_, fun p hp => (I.kp p hp).thru th th⟩
  · have n' : ¬ b = a := fun z => by rw [z] at h; exact nw.no h t
    rw [ne n']
    exact I.ext.keep b o h n t
  · by_cases n : b = a
    · rw [n]; exact ⟨_, upd_same, fun ps z => by cases z⟩
    · obtain ⟨o, h1, h2⟩ := I.dom' b q
      exact ⟨o, by rw [ne n]; exact h1, h2⟩
  · have hj : j ≠ i := fun w => by rw [w, at_] at q; cases q
    rw [ne_ hj] at q
    obtain ⟨v, e1, h1⟩ := I.val j d q
    exact ⟨v, e1, Dv.thru th d h1⟩
  · by_cases hj : j = i
    · subst hj
      rw [at_] at q
      cases q
      exact ⟨hO, a, xs', hs, upd_same, z, DvAll.thru th ds' t, nw, fun q => nb (q.elim .inl fun q => .inr ((bm a).mp q))⟩
    · rw [ne_ hj] at q
      obtain ⟨h0, b, ys, e1, e2, e3, e4, e5, e6⟩ := I.own j es q
      have n : ¬ b = a := fun w => hj (I.inj j i a (.inr ⟨es, q⟩) (.inr ⟨ds, he⟩) (by rw [← w]; exact e1) hs)
      exact ⟨h0, b, ys, e1, by rw [ne n]; exact e2, e3, DvAll.thru th es e4, e5, fun q => e6 (q.elim .inl fun q => .inr ((bm b).mp q))⟩
  · have q' := (bg j).mp q
    obtain ⟨h0, b, e1, e2, e3⟩ := I.bag j q'
    have n : ¬ b = a := fun w => nb (.inr (by rw [← w]; exact ⟨j, q', e1⟩))
    exact ⟨h0, b, e1, by rw [ne n]; exact e2, e3⟩
  · obtain ⟨j, h1, h2⟩ := I.b0 b h
    exact ⟨j, (bg j).mpr h1, h2⟩
/-- a slot gets a new list, to be written; or the bag -/
theorem SI.setN (I : SI F σ H e B) (g : Go F σ H e B1 H1) {i : Nat} {a : Addr} {xs : List V} {z : Sl} (hO : i ∈ F.O) (hi : i < e.length) (nw : Nw H a) (hx : H1 a = some (.lst xs))
    (hz : (∃ ds, z = .own ds ∧ B' = B1 ∧ e[i]? ≠ some .bag ∧ xs.length ≤ sizeLine ∧ DvAll F.K H1 (fun y => Av F σ e y ∨ y = a) ds xs) ∨ (z = .bag ∧ F.b0 = none ∧ xs = B'.map V.int ∧ ∀ j, e[j]? = some .bag → j = i)) : SI F (σ.set i (some (.ref a))) H1 (e.set i z) B' := by
  have ne_ : ∀ {j : Nat}, j ≠ i → (e.set i z)[j]? = e[j]? := fun n => by rw [List.getElem?_set, if_neg (fun w => n w.symm)]
  have nes : ∀ {j : Nat}, j ≠ i → (σ.set i (some (.ref a)))[j]? = σ[j]? := fun n => by rw [List.getElem?_set, if_neg (fun w => n w.symm)]
  have at_ : (e.set i z)[i]? = some z := by rw [List.getElem?_set, if_pos rfl, if_pos hi]
  have ats : (σ.set i (some (.ref a)))[i]? = some (some (.ref a)) := by rw [List.getElem?_set, if_pos rfl, if_pos (by rw [← I.len]; exact hi)]
  have av : ∀ x, Av F (σ.set i (some (.ref a))) (e.set i z) x → Av F σ e x ∨ x = a := fun x h => by
    rcases h with h | ⟨j, h1, h2⟩
    · exact .inl (.inl h)
    · by_cases hj : j = i
      · subst hj
        rw [ats] at h2
        cases h2
        exact .inr rfl
      · rw [nes hj] at h2
        unfold Own at h1
        rw [ne_ hj] at h1
        exact .inl (.inr ⟨j, h1, h2⟩)
  have I1 := I.step g
  have th : Thru F.K H H1 (Av F σ e) (Av F (σ.set i (some (.ref a))) (e.set i z)) := by
    have t1 : Thru F.K H H1 (Av F σ e) (Av F σ e) := g.ext.thru fun _ h => h.av
    refine ⟨fun b ys q => ?_, t1.t⟩
    rcases q with q | q | q
    · refine .inl ⟨g.ext.keep b _ q.1 (fun w => q.2 w.av) (fun ps z => by cases z), fun w => ?_⟩
      rcases av b w with w | w
      · exact q.2 w
      · rw [w] at q; exact nw.no q.1 (fun ps z => by cases z)
    · obtain ⟨o, q⟩ := q
      exact .inr (.inl ⟨o, g.ext.frzs b o _ q⟩)
    · exact .inr (.inr q)
  have bm : ∀ x, Bm (σ.set i (some (.ref a))) (e.set i z) x → Bm σ e x ∨ x = a := fun x ⟨j, h1, h2⟩ => by
    by_cases hj : j = i
    · subst hj
      rw [ats] at h2
      cases h2
      exact .inr rfl
    · rw [ne_ hj] at h1
      rw [nes hj] at h2
      exact .inl ⟨j, h1, h2⟩
  have old : ∀ {j : Nat} {b : Addr}, Own e j → σ[j]? = some (some (.ref b)) → b ≠ a := fun {j b} h1 h2 w => by
    obtain ⟨o, q1, q2⟩ := I.domA b (Own.av h1 h2)
    rw [w] at q1
    exact nw.no q1 q2
  refine ⟨by rw [List.length_set, List.length_set]; exact I.len, I1.ext, I1.tabs, I1.dom', fun j d q => ?_, fun j es q => ?_, fun j q => ?_, fun j k b h1 h2 h3 h4 => ?_, fun j k h1 h2 => ?_, fun b h => ?_, fun p hp => (I.kp p hp).thru th th⟩
  · have hj : j ≠ i := fun w => by
      rw [w, at_] at q
      rcases hz with ⟨ds, hz, _⟩ | ⟨hz, _⟩ <;> rw [hz] at q <;> cases q
    rw [ne_ hj] at q
    obtain ⟨v, e1, h1⟩ := I.val j d q
    exact ⟨v, by rw [nes hj]; exact e1, Dv.thru th d h1⟩
  · by_cases hj : j = i
    · subst hj
      rw [at_] at q
      rcases hz with ⟨ds, hz, _, nb, z1, t⟩ | ⟨hz, _⟩
      · rw [hz] at q
        cases q
        refine ⟨hO, a, xs, ats, hx, z1, t.less av, I.nw nw, fun w => ?_⟩
        rcases w with w | ⟨k, h1, h2⟩
        · exact I.nAv nw (.inl w)
        · by_cases hk : k = j
          · rw [hk, at_, hz] at h1; cases h1
          · rw [ne_ hk] at h1
            rw [nes hk] at h2
            exact old (.inl h1) h2 rfl
      · rw [hz] at q; cases q
    · rw [ne_ hj] at q
      obtain ⟨h0, b, ys, e1, e2, e3, e4, e5, e6⟩ := I1.own j es q
      obtain ⟨_, b', ys', e1', e2', _, e4', _⟩ := I.own j es q
      rw [e1] at e1'
      cases e1'
      have hyy : ys' = ys := by
        have := g.ext.keep b _ e2' (fun w => e6 (.inr w)) (fun ps z => by cases z)
        rw [e2] at this
        cases this
        rfl
      subst hyy
      refine ⟨h0, b, ys', by rw [nes hj]; exact e1, e2, e3, DvAll.thru th es e4', e5, fun w => ?_⟩
      rcases w with w | w
      · exact e6 (.inl w)
      · rcases bm b w with w | w
        · exact e6 (.inr w)
        · exact old (.inr ⟨es, q⟩) e1 w
  · by_cases hj : j = i
    · subst hj
      rw [at_] at q
      rcases hz with ⟨ds, hz, _⟩ | ⟨hz, hb0, hxs, _⟩
      · rw [hz] at q; cases q
      · exact ⟨hO, a, ats, by rw [hx, hxs], .inr (I.nw nw)⟩
    · rw [ne_ hj] at q
      rcases hz with ⟨ds, hz, hB, _⟩ | ⟨hz, hb0, hxs, h1⟩
      · obtain ⟨h0, b, e1, e2, e3⟩ := I1.bag j q
        exact ⟨h0, b, by rw [nes hj]; exact e1, by rw [hB]; exact e2, e3⟩
      · exact absurd (h1 j q) hj
  · by_cases hj : j = i
    · by_cases hk : k = i
      · rw [hj, hk]
      · rw [hj, ats] at h3
        cases h3
        unfold Own at h2
        rw [ne_ hk] at h2
        rw [nes hk] at h4
        exact absurd rfl (old h2 h4)
    · unfold Own at h1
      rw [ne_ hj] at h1
      rw [nes hj] at h3
      by_cases hk : k = i
      · rw [hk, ats] at h4
        cases h4
        exact absurd rfl (old h1 h3)
      · unfold Own at h2
        rw [ne_ hk] at h2
        rw [nes hk] at h4
        exact I.inj j k b h1 h2 h3 h4
  · rcases hz with ⟨ds, hz, hB, nb, _⟩ | ⟨hz, hb0, hxs, hb1⟩
    · have n1 : j ≠ i := fun w => by rw [w, at_, hz] at h1; cases h1
      have n2 : k ≠ i := fun w => by rw [w, at_, hz] at h2; cases h2
      rw [ne_ n1] at h1
      rw [ne_ n2] at h2
      exact I.one j k h1 h2
    · have m : ∀ l, (e.set i z)[l]? = some .bag → l = i := fun l h => by
        by_cases hl : l = i
        · exact hl
        · rw [ne_ hl] at h; exact hb1 l h
      rw [m j h1, m k h2]
  · rcases hz with ⟨ds, hz, hB, nb, _⟩ | ⟨hz, hb0, _⟩
    · obtain ⟨j, h1, h2⟩ := I.b0 b h
      have n1 : j ≠ i := fun w => nb (by rw [← w]; exact h1)
      exact ⟨j, by rw [ne_ n1]; exact h1, by rw [nes n1]; exact h2⟩
    · rw [hb0] at h; cases h
end
end PD
set_option linter.all false
set_option maxRecDepth 100000
set_option maxHeartbeats 1000000
/-! Statements: the rules. -/
namespace PD
open PySem PySem.Spec PyProof.Rows L2
section
variable {X : Cx} {F : Fx} {W : Nat → Hp → Prop} {new : Bool} {pos p p2 p3 : Pos} {a b c tg : Expr} {ma mb mc m : ME} {ms : MEs} {es : List Expr} {t : Tgt} {st : Stmt} {body rest : List Stmt}
theorem bagFree_spec : ∀ {i : Nat} {e : SEnv}, bagFree i e = true → i < e.length ∧ ∀ j : Nat, e[j]? = some .bag → j = i
  | _, [], h => by simp [bagFree] at h
  | 0, s :: r, h => by
    simp only [bagFree, List.all_eq_true, Bool.not_eq_true'] at h
    refine ⟨by simp, fun j hj => ?_⟩
    cases j with
    | zero => rfl
    | succ j =>
      have hj' : r[j]? = some .bag := by simpa using hj
      have := h _ (List.mem_of_getElem? hj')
      cases this
  | i + 1, s :: r, h => by
    simp only [bagFree, Bool.and_eq_true, Bool.not_eq_true'] at h
    obtain ⟨h1, h2⟩ := bagFree_spec h.2
    refine ⟨by simp; omega, fun j hj => ?_⟩
    cases j with
    | zero =>
      have : s = .bag := by simpa using hj
      rw [this] at h
      cases h.1
    | succ j => rw [h2 j (by simpa using hj)]
theorem s_nil : PSs X [] (tSs F W new .nil) := pss_nil.imp fun E σ H ⟨e, B, I, A⟩ => by
  simp only [evSs] at A
  exact A σ H I
theorem s_cons {s : MS} {r : MSs} (h1 : PS X st (tS F W new s)) (h2 : PSs X rest (tSs F W new r)) : PSs X (st :: rest) (tSs F W new (.cons s r)) := by
  refine (pss_cons h1 h2).imp fun E σ H ⟨e, B, I, A⟩ => ?_
  simp only [evSs] at A
  refine ⟨e, B, I, ?_⟩
  cases q : evS F.Γ s e B with
  | stuck => rw [q] at A; exact A
  | err n => rw [q] at A; exact A
  | ok pr =>
    obtain ⟨x, B1⟩ := pr
    rw [q] at A
    cases x with
    | nx e1 => exact fun σ' H' I' => ⟨e1, B1, I', A⟩
    | rt d => exact A
theorem s_asg (he : PE X a (tD F W m)) (hg : PG X tg (gD F t)) (hsf : sf F.O m = true) (hs : swapsWithSole [tg] a pos.line X.env = pure false) (hw : swappedStores [tg] a X.env = pure none) (h1 : (assignEach [tg] X.env).map (·.2) = [assign tg X.env]) :
    PS X (.Assign [tg] a pos) (tS F W new (.asg t m)) := by
  refine (ps_asg he hg hs hw h1).imp fun E σ H ⟨e, B, I, A⟩ => ?_
  simp only [evS, onE] at A
  refine ⟨e, B, I, (A.after I).bind.imp fun d B1 H1 g h v hv => ?_⟩
  have h := h H1 (I.step g).here
  cases q : bindT t d e with
  | none => rw [q] at h; exact h.elim
  | some e' =>
    rw [q] at h
    exact ⟨e, B1, d, e', I.step g, by have := hv.dv; rw [hsf] at this; exact this, q, fun σ' I' _ _ _ => h σ' H1 I'⟩
theorem s_asgC {tc : TE} {i : Nat} (hp : PS X st (tAsg tc (gName i))) (hc : ∀ σ H Q, tF F W m σ H Q → tc σ H Q) (hO : i ∉ F.O) (hsf : sf F.O m = true) : PS X st (tS F W new (.asg (.nm i) m)) := by
  refine hp.imp fun E σ H ⟨e, B, I, A⟩ => hc σ H _ ?_
  simp only [evS, onE] at A
  refine ⟨e, B, I, (A.after I).bind.imp fun d B1 H1 g h v hv _ => ?_⟩
  have h := h H1 (I.step g).here
  simp only [bindT] at h
  have hv := hv.dv
  rw [hsf] at hv
  exact h _ H1 ((I.step g).setV hO hv)
/-- name = a new list, to be written -/
theorem s_asgO {tc : TE} {i : Nat} (hp : PS X st (tAsg tc (gName i))) (hc : ∀ σ H Q, tF F W m σ H Q → tc σ H Q) (hO : i ∈ F.O) (hss : ss F.O m = true) : PS X st (tS F W new (.asgO i m)) := by
  refine hp.imp fun E σ H ⟨e, B, I, A⟩ => hc σ H _ ?_
  simp only [evS] at A
  refine ⟨e, B, I, (A.after I).imp fun d B1 H1 g h v hv fr => ?_⟩
  cases q : e[i]? with
  | none => rw [q] at h; exact False.elim h
  | some s =>
    have hi : i < e.length := (List.getElem?_eq_some_iff.mp q).1
    rw [q] at h
    have nb : s ≠ .bag := fun z => by rw [z] at h; exact h
    have hd : ∃ ds, d = .list ds ∧ ∀ σ' H', SI F σ' H' (e.set i (.own ds)) B1 → E.nx σ' H' := by
      cases s with
      | bag => exact absurd rfl nb
      | _ => cases d <;> first | exact ⟨_, rfl, h⟩ | exact False.elim h
    obtain ⟨ds, rfl, hq⟩ := hd
    obtain ⟨ds', a', xs, e1, rfl, hx, z, nw, t⟩ := fr ⟨ds, rfl⟩
    cases e1
    refine hq _ H1 (I.setN g hO hi nw hx (.inl ⟨ds, rfl, rfl, by rw [q]; intro w; cases w; exact nb rfl, z, ?_⟩))
    rw [hss] at t
    exact t
theorem s_par {i j : Nat} {x y : Str} {px py pt : Pos} {kt k2 pt2} (hc : X.calm = true) (hN : X.N.Nodup) (hi : X.N[i]? = some x) (hj : X.N[j]? = some y) (hij : i ≠ j) (hx : X.env.scope.names.lookup x = some .local) (hy : X.env.scope.names.lookup y = some .local)
    (ha : PE X a (tD F W ma)) (hb : PE X b (tD F W mb)) (hp : plainE a = true) (hp2 : plainE b = true) (hsa : sf F.O ma = true) (hsb : sf F.O mb = true) (hOi : i ∉ F.O) (hOj : j ∉ F.O)
    (hw : swappedStores [.Tuple [.Name x px, .Name y py] kt pt] (.Tuple [a, b] k2 pt2) X.env = pure (some [x, y])) (hs : swapsWithSole [.Tuple [.Name x px, .Name y py] kt pt] (.Tuple [a, b] k2 pt2) pos.line X.env = pure false) :
    PS X (.Assign [.Tuple [.Name x px, .Name y py] kt pt] (.Tuple [a, b] k2 pt2) pos) (tS F W new (.par i j ma mb)) := by
  refine (ps_par hc hN hi hj hij hx hy (pa_cons ha (pa_cons hb pa_nil (star_plain hp2)) (star_plain hp)) hw hs).imp fun E σ H ⟨e, B, I, A⟩ => ?_
  simp only [evS] at A
  refine ⟨e, B, I, (A.after I).imp fun d B1 H1 g h v hv => ⟨e, B1, I.step g, (h.after (I.step g)).imp fun d2 B2 H2 g2 h2 v2 hv2 => ⟨v, v2, rfl, ?_⟩⟩⟩
  have h3 := (hv.go g2).dv
  have h4 := hv2.dv
  rw [hsa] at h3
  rw [hsb] at h4
  have I2 := ((I.step g).step g2)
  have I3 := I2.setV hOi h3
  refine h2 _ H2 (I3.setV hOj (h4.less fun x q => ?_))
  rcases q with q | ⟨k, q1, q2⟩
  · exact .inl q
  · have hk : k ≠ i := fun w => hOi (by rw [← w]; exact I3.ownO q1)
    refine .inr ⟨k, ?_, ?_⟩
    · unfold Own at q1 ⊢
      rw [List.getElem?_set, if_neg (fun w => hk w.symm)] at q1
      exact q1
    · rw [List.getElem?_set, if_neg (fun w => hk w.symm)] at q2
      exact q2
theorem setV_av {i : Nat} {d : D} {v : V} {σ : Slots} {H : Hp} {e : SEnv} {B : Bg} (I : SI F σ H e B) (hi : i ∉ F.O) (hv : Dv F.K H (Av F σ e) d v) (x : Addr) (q : Av F (σ.set i (some v)) (e.set i (.val d)) x) : Av F σ e x := by
  have I3 := I.setV hi hv
  rcases q with q | ⟨k, q1, q2⟩
  · exact .inl q
  · have hk : k ≠ i := fun w => hi (by rw [← w]; exact I3.ownO q1)
    refine .inr ⟨k, ?_, ?_⟩
    · unfold Own at q1 ⊢
      rw [List.getElem?_set, if_neg (fun w => hk w.symm)] at q1
      exact q1
    · rw [List.getElem?_set, if_neg (fun w => hk w.symm)] at q2
      exact q2
theorem s_par3 {i j l : Nat} {x y z : Str} {px py pz pt : Pos} {kt k2 pt2} (hc : X.calm = true) (hN : X.N.Nodup) (hi : X.N[i]? = some x) (hj : X.N[j]? = some y) (hl : X.N[l]? = some z) (hij : i ≠ j) (hil : i ≠ l) (hjl : j ≠ l)
    (hx : X.env.scope.names.lookup x = some .local) (hy : X.env.scope.names.lookup y = some .local) (hz : X.env.scope.names.lookup z = some .local)
    (ha : PE X a (tD F W ma)) (hb : PE X b (tD F W mb)) (hcc : PE X c (tD F W mc)) (hp : plainE a = true) (hp2 : plainE b = true) (hp3 : plainE c = true) (hsa : sf F.O ma = true) (hsb : sf F.O mb = true) (hsc : sf F.O mc = true) (hOi : i ∉ F.O) (hOj : j ∉ F.O) (hOl : l ∉ F.O)
    (hw : swappedStores [.Tuple [.Name x px, .Name y py, .Name z pz] kt pt] (.Tuple [a, b, c] k2 pt2) X.env = pure (some [x, y, z])) (hs : swapsWithSole [.Tuple [.Name x px, .Name y py, .Name z pz] kt pt] (.Tuple [a, b, c] k2 pt2) pos.line X.env = pure false) :
    PS X (.Assign [.Tuple [.Name x px, .Name y py, .Name z pz] kt pt] (.Tuple [a, b, c] k2 pt2) pos) (tS F W new (.par3 i j l ma mb mc)) := by
  refine (ps_par3 hc hN hi hj hl hij hil hjl hx hy hz (pa_cons ha (pa_cons hb (pa_cons hcc pa_nil (star_plain hp3)) (star_plain hp2)) (star_plain hp)) hw hs).imp fun E σ H ⟨e, B, I, A⟩ => ?_
  simp only [evS] at A
  refine ⟨e, B, I, (A.after I).imp fun d B1 H1 g h v hv => ⟨e, B1, I.step g, (h.after (I.step g)).imp fun d2 B2 H2 g2 h2 v2 hv2 => ⟨e, B2, (I.step g).step g2, (h2.after ((I.step g).step g2)).imp fun d3 B3 H3 g3 h3 v3 hv3 => ⟨v, v2, v3, rfl, ?_⟩⟩⟩⟩
  have q1 := ((hv.go g2).go g3).dv
  have q2 := (hv2.go g3).dv
  have q3 := hv3.dv
  rw [hsa] at q1
  rw [hsb] at q2
  rw [hsc] at q3
  have I2 := ((I.step g).step g2).step g3
  have q2' := q2.less (setV_av I2 hOi q1)
  have I3 := I2.setV hOi q1
  have q3' := (q3.less (setV_av I2 hOi q1)).less (setV_av I3 hOj q2')
  exact h3 _ H3 ((I3.setV hOj q2').setV hOl q3')
/-- name[k] = .. -/
theorem s_setL {i : Nat} {x : Str} {k : Expr} {mk : ME} (hN : X.N[i]? = some x) (hv : Vis X.env.scope x) (hd : (x == ("__debug__" : Str)) = false) (hcd : (x == ("__classdict__" : Str)) = false) (ha : PE X a (tD F W m)) (hk : PE X k (tD F W mk)) (hsf : sf F.O m = true)
    (hasg : ∀ v, assign (.Subscript (.Name x p) k p2) X.env v = (do
      let ov ← holding [v] (eval (.Name x p) X.env)
      let iv ← holding [v, ov] (eval k X.env)
      standAt p2
      holding [v, ov, iv] (setItem ov iv v)
      release [v, ov, iv] [])) (hs : swapsWithSole [.Subscript (.Name x p) k p2] a pos.line X.env = pure false) (hw : swappedStores [.Subscript (.Name x p) k p2] a X.env = pure none) (h1 : (assignEach [.Subscript (.Name x p) k p2] X.env).map (·.2) = [assign (.Subscript (.Name x p) k p2) X.env]) :
    PS X (.Assign [.Subscript (.Name x p) k p2] a pos) (tS F W new (.setL i mk m)) := by
  refine (ps_asg ha (pg_sub (pe_var hN hv hd hcd) hk set_list hasg) hs hw h1).imp fun E σ H ⟨e, B, I, A⟩ => ?_
  simp only [evS] at A
  refine ⟨e, B, I, (A.after I).imp fun d B1 H1 g h v hv => ?_⟩
  have I1 := I.step g
  cases ho : e[i]? with
  | none => rw [ho] at h; exact h.elim
  | some s =>
    rw [ho] at h
    cases s with
    | own ds =>
      obtain ⟨hO, a', xs, q1, q2, q3, q4, q5, q6⟩ := I1.own i ds ho
      refine ⟨_, q1, e, B1, I1, (Wish.after h I1).imp fun y B2 H2 g2 h2 w hw => ?_⟩
      have I2 := I1.step g2
      obtain ⟨_, a2, xs2, r1, r2, r3, r4, _⟩ := I2.own i ds ho
      rw [q1] at r1
      cases r1
      cases y with
      | int n =>
        simp only at h2
        cases hj : ixD ds.length n with
        | none => rw [hj] at h2; exact h2.elim
        | some j =>
          rw [hj] at h2
          have hvv := (hv.go g2).dv
          rw [hsf] at hvv
          exact ⟨a', xs2, n, j, rfl, hw.di.i, r2, by rw [ixD_eq, r4.length]; exact hj, h2 _ _ (I2.wrO ho q1 r2 (by rw [List.length_set]; exact r3) (r4.set hvv j))⟩
      | _ => exact False.elim h2
    | _ => exact False.elim h
/-- name.append(..) -/
theorem s_app {i : Nat} {x : Str} (hN : X.N[i]? = some x) (hv : Vis X.env.scope x) (hd : (x == ("__debug__" : Str)) = false) (hcd : (x == ("__classdict__" : Str)) = false) (ha : PE X a (tD F W m)) (hp : plainE a = true) (hsf : sf F.O m = true) (hline : (p2.endLine == p3.line) = true) :
    PS X (.Expr (.Call (.Attribute (.Name x p) "append" p2) [a] [] p3) pos) (tS F W new (.app i m)) := by
  have hfew : ((backTo p3 (starEach [a] X.env)).all (fun x => !x.1) && (backToKw p3 (keywordEach [] X.env)).all (fun x => x.1.isSome) && decide ([a].length + ([] : List Keyword).length + (if ([] : List Keyword).isEmpty then 0 else 1) < 30)) = true := by
    rw [star_plain hp]; rfl
  refine (ps_expr (pe_bm PySem.F.plainAttrs_list PySem.F.slot_list_append PySem.F.type_list_append mt_append (pe_var hN hv hd hcd) (pa_1 ha hp) rfl hfew hline (star_plain hp)) rfl).imp fun E σ H ⟨e, B, I, A⟩ => ?_
  simp only [evS] at A
  cases ho : e[i]? with
  | none => rw [ho] at A; exact A.elim
  | some s =>
    rw [ho] at A
    cases s with
    | own ds =>
      obtain ⟨hO, a', xs, q1, q2, q3, q4, q5, q6⟩ := I.own i ds ho
      refine ⟨_, q1, .inl ⟨rfl, xs, SqL.of q2⟩, e, B, I, (Wish.after A I).imp fun d B1 H1 g h v hv => ?_⟩
      have I1 := I.step g
      obtain ⟨_, a2, xs2, r1, r2, r3, r4, _⟩ := I1.own i ds ho
      rw [q1] at r1
      cases r1
      have hvv := hv.dv
      rw [hsf] at hvv
      split at h
      · rename_i hz
        exact ⟨a', xs2, v, rfl, rfl, r2, by rw [r4.length]; exact hz, h _ _ (I1.wrO ho q1 r2 (by rw [List.length_append, r4.length]; exact hz) (r4.append (.cons hvv .nil)))⟩
      · exact h.elim
    | _ => exact False.elim A
/-- bag = f(..) -/
theorem s_setbag {tc : TE} {i f : Nat} (hp : PS X st (tAsg tc (gName i))) (hc : ∀ σ H Q, tF F W (.call f ms) σ H Q → tc σ H Q) (hO : i ∈ F.O) (hb0 : F.b0 = none) : PS X st (tS F W new (.setbag i f ms)) := by
  refine hp.imp fun E σ H ⟨e, B, I, A⟩ => hc σ H _ ?_
  simp only [evS] at A
  refine ⟨e, B, I, ?_⟩
  simp only [ev]
  cases q : evs F.Γ ms e B with
  | stuck => rw [q] at A; exact A
  | err n => rw [q] at A; exact fun H' x => A H' (I.err x)
  | ok pr =>
    obtain ⟨ds, B0⟩ := pr
    rw [q] at A
    show After F W σ H e ((F.Γ.call f ds).bind fun d => .ok (d, B0)) _
    have A : Wish F W new ((F.Γ.call f ds).bind _) E := A
    cases q2 : F.Γ.call f ds with
    | stuck => rw [q2] at A; exact A
    | err n => rw [q2] at A; exact fun H' x => A H' (I.err x)
    | ok d =>
      rw [q2] at A
      intro H1 g v hv fr
      cases d with
      | list xs =>
        have A : Wish F W new (match ints? xs with
          | some ns => if bagFree i e then .ok (.nx (e.set i .bag), ns) else .stuck
          | none => .stuck) E := A
        cases q3 : ints? xs with
        | none => rw [q3] at A; exact A.elim
        | some ns =>
          rw [q3] at A
          simp only at A
          split at A
          · rename_i hbf
            obtain ⟨hi, hu⟩ := bagFree_spec hbf
            obtain ⟨ds', a', ys, e1, rfl, hx, z, nw, t⟩ := fr ⟨xs, rfl⟩
            cases e1
            exact A _ H1 (I.setN g hO hi nw hx (.inr ⟨rfl, hb0, t.ints q3, hu⟩))
          · exact A.elim
      | _ => exact False.elim A
/-! ### expressions, returns -/
theorem s_expr (he : PE X a (tD F W m)) (hs : swapsWith a none pos.line X.env = pure false) : PS X (.Expr a pos) (tS F W new (.expr m)) := by
  refine (ps_expr he hs).imp fun E σ H ⟨e, B, I, A⟩ => ?_
  simp only [evS] at A
  exact ⟨e, B, I, (A.after I).imp fun d B1 H1 g h v hv => h σ H1 (I.step g)⟩
theorem s_ret (he : PE X a (tD F W m)) : PS X (.Return (some a) pos) (tS F W false (.ret m)) := by
  refine (ps_ret he).imp fun E σ H ⟨e, B, I, A⟩ => ?_
  simp only [evS] at A
  exact ⟨e, B, I, (A.after I).imp fun d B1 H1 g h v hv => h v H1 ((I.step g).ret (hv.dv.less fun x q => Ab.pr (.inl q)))⟩
theorem s_retF (he : PE X a (tF F W m)) : PS X (.Return (some a) pos) (tS F W new (.ret m)) := by
  refine (ps_ret he).imp fun E σ H ⟨e, B, I, A⟩ => ?_
  simp only [evS] at A
  refine ⟨e, B, I, (A.after I).with fun d B1 H1 q g h v hv fr => h v H1 ?_⟩
  have r := (I.step g).ret (hv.dv.less fun x q => Ab.pr (.inl q))
  refine ⟨r.ext, r.bag, r.dv, fun _ hl => ?_⟩
  obtain ⟨ds, a', xs, q1, q2, q3, q4, q5, q6⟩ := fr hl
  exact ⟨ds, a', xs, q1, q2, q3, q4, I.nw q5, q6.less fun x q => q.imp (fun q => Ab.pr (.inl q)) id⟩
theorem s_retO {i : Nat} {x : Str} (hN : X.N[i]? = some x) (hv : Vis X.env.scope x) (hd : (x == ("__debug__" : Str)) = false) (hcd : (x == ("__classdict__" : Str)) = false) : PS X (.Return (some (.Name x p)) pos) (tS F W new (.retO i)) := by
  refine (ps_ret (pe_var hN hv hd hcd)).imp fun E σ H ⟨e, B, I, A⟩ => ?_
  simp only [evS] at A
  cases ho : e[i]? with
  | none => rw [ho] at A; exact A.elim
  | some s =>
    rw [ho] at A
    cases s with
    | own ds =>
      obtain ⟨hO, a', xs, q1, q2, q3, q4, q5, q6⟩ := I.own i ds ho
      have aAv : Av F σ e a' := Own.av (.inr ⟨ds, ho⟩) q1
      have hdv : Dv F.K H F.A0 (.list ds) (.ref a') := .mkL (SqL.of q2) (fun w => q6 (.inl w)) q3 (q4.less fun x q => .inl q)
      have r := I.ret hdv
      exact ⟨_, q1, A _ H ⟨r.ext, r.bag, r.dv, fun _ _ => ⟨ds, a', xs, rfl, rfl, q2, q3, q5, q4.less fun x q => q.elim .inl fun q => by rw [q]; exact aAv⟩⟩⟩
    | _ => exact False.elim A
/-! ### if, while, for -/
theorem s_if {ba bb : List Stmt} {sa sb : MSs} (hc : PT X c (tT F W mc)) (h1 : PSs X ba (tSs F W new sa)) (h2 : PSs X bb (tSs F W new sb)) : PS X (.If c ba bb pos) (tS F W new (.ife mc sa sb)) := by
  refine (ps_if hc h1 h2).imp fun E σ H ⟨e, B, I, A⟩ => ?_
  simp only [evS] at A
  refine ⟨e, B, I, (A.after I).imp fun d B1 H1 g h => ?_⟩
  cases d with
  | bool k =>
    refine ⟨k, rfl, ?_⟩
    cases k with
    | true => exact ite_tt ⟨e, B1, I.step g, h⟩
    | false => exact ite_ff ⟨e, B1, I.step g, h⟩
  | _ => exact False.elim h
theorem s_while {sb : MSs} (hp : PassesOwn (model X.prog X.w) X.A X.env X.xe) (hc : PT X c (tT F W mc)) (hb : PSs X body (tSs F W new sb)) : PS X (.While c body [] pos) (tS F W new (.whil mc sb)) := by
  refine (ps_while hp hc hb).imp fun E σ H ⟨e, B, I, A⟩ => ?_
  simp only [evS] at A
  refine ⟨fun n σ H => ∃ e B, SI F σ H e B ∧ Wish F W new (whileL (fun σ B => ev F.Γ mc σ B) (fun σ B => evSs F.Γ sb σ B) n e B) E, ⟨_, e, B, I, A⟩, ?_⟩
  rintro n σ H ⟨e, B, I, A⟩
  cases n with
  | zero => exact False.elim A
  | succ n =>
    simp only [whileL] at A
    refine ⟨e, B, I, (A.after I).imp fun d B1 H1 g h => ?_⟩
    have I1 := I.step g
    cases d with
    | bool k =>
      refine ⟨k, rfl, ?_⟩
      cases k with
      | false => exact ite_ff (h σ H1 I1)
      | true =>
        refine ite_tt ⟨_, fun σ' H' q => ⟨n, Nat.lt_succ_self n, q⟩, e, B1, I1, ?_⟩
        have h : Wish F W new ((evSs F.Γ sb e B1).bind _) E := h
        cases q : evSs F.Γ sb e B1 with
        | stuck => rw [q] at h; exact h
        | err c => rw [q] at h; exact h
        | ok pr =>
          obtain ⟨x, B2⟩ := pr
          rw [q] at h
          cases x with
          | nx e2 => exact fun σ' H' I' => ⟨e2, B2, I', h⟩
          | rt d => exact h
    | _ => exact False.elim h
/-- more that is to stand -/
def Fx.keeps (F : Fx) (kp : List (D × V)) : Fx := { F with kp := kp ++ F.kp }
theorem SI.keeps {σ : Slots} {H : Hp} {e : SEnv} {B : Bg} {kp : List (D × V)} (I : SI F σ H e B) (h : ∀ p ∈ kp, Dj F.K H (Av F σ e) (Av F σ e) p.1 p.2) : SI (F.keeps kp) σ H e B :=
  ⟨I.len, I.ext, I.tabs, I.dom', I.val, I.own, I.bag, I.inj, I.one, I.b0, fun p hp => (List.mem_append.mp hp).elim (h p) (I.kp p)⟩
theorem SI.drop {σ : Slots} {H : Hp} {e : SEnv} {B : Bg} {kp : List (D × V)} (I : SI (F.keeps kp) σ H e B) : SI F σ H e B :=
  ⟨I.len, I.ext, I.tabs, I.dom', I.val, I.own, I.bag, I.inj, I.one, I.b0, fun p hp => I.kp p (List.mem_append_right _ hp)⟩
theorem s_for {mi : MI} {sb : MSs} (hp : PassesOwn (model X.prog X.w) X.A X.env X.xe) (hc : X.calm = true) (hi : PI X tg a (iD F W mi)) (hsf : sfI F.O mi = true) (hg : ∀ kp, PG X tg (gD (F.keeps kp) t)) (hb : ∀ kp, PSs X body (tSs (F.keeps kp) W new sb)) (hs : ∀ x, foldedSetIterable a X.env x = pure x) :
    PS X (.For tg a body [] pos) (tS F W new (.forr t mi sb)) := by
  have ps := ps_for (X := X) (tg := tg) (iter := a) (body := body) (pos := pos) (wi := iD F W mi) (g := fun v σ H K => ∃ kp, gD (F.keeps kp) t v σ H K) (tb := fun E σ H => ∃ kp, tSs (F.keeps kp) W new sb E σ H) hp hc hi
    ⟨fun pins s' σ H v u Q I r ⟨kp, q⟩ => (hg kp).run pins s' σ H v u Q I r q⟩ ⟨fun pins s' σ H Q I ⟨kp, q⟩ => (hb kp).run pins s' σ H Q I q⟩ hs
  refine ps.imp fun E σ H ⟨e, B, I, A⟩ => ?_
  simp only [evS] at A
  refine ⟨e, B, I, (A.after I).imp fun ds B1 H1 g h J kp wk hkp => ?_⟩
  have I1 := (I.step g)
  rw [hsf] at hkp
  have I1' : SI (F.keeps kp) σ H1 e B1 := I1.keeps hkp
  let fb : D → SEnv → Bg → M Fl := fun d σ B => match bindT t d σ with
    | some τ => evSs F.Γ sb τ B
    | none => .stuck
  have h : Wish F W new (forL fb ds e B1) E := h
  have walk : Walk J ds.length (fun H => ∃ A : Addr → Prop, ∀ p ∈ kp, Dj F.K H A A p.1 p.2) (fun i H' x H'' => Same H' H'' ∧ ∃ d, ds[i]? = some d ∧ ∀ A : Addr → Prop, (∀ p ∈ kp, Dj F.K H' A A p.1 p.2) → Dv F.K H'' A d x) :=
    ⟨fun i H' hi ⟨A, q⟩ => wk.go i H' A A hi q, fun H' ⟨A, q⟩ => wk.stop H' A A q, fun i H' x H'' hi ⟨A, q⟩ y => by
      obtain ⟨s, d, hd, _⟩ := wk.yld i H' A A x H'' hi q y
      refine ⟨s, d, hd, fun A2 q2 => ?_⟩
      obtain ⟨_, d2, hd2, h2⟩ := wk.yld i H' A2 A2 x H'' hi q2 y
      rw [hd] at hd2
      cases hd2
      exact h2⟩
  refine for_it (g := fun v σ H K => ∃ kp, gD (F.keeps kp) t v σ H K) (tb := fun E σ H => ∃ kp, tSs (F.keeps kp) W new sb E σ H) (D := E) walk (fun i σ H => ∃ e B, SI (F.keeps kp) σ H e B ∧ Wish F W new (forL fb (ds.drop i) e B) E) ⟨e, B1, I1', h⟩
    (fun i σ H _ ⟨e, B, I, _⟩ => ⟨Av (F.keeps kp) σ e, fun p hp => I.kp p (List.mem_append_left _ hp)⟩) ?_ ?_
  · rintro i x σ H2 H3 hi ⟨e2, B2, I2, h2⟩ ⟨sm, d, hd, hx⟩
    have hdrop : ds.drop i = d :: ds.drop (i + 1) := by
      rw [List.drop_eq_getElem_cons hi]
      rw [List.getElem?_eq_getElem hi] at hd
      rw [Option.some.inj hd]
    rw [hdrop] at h2
    simp only [forL] at h2
    have I3 := I2.step (I2.here.same sm)
    have hx := hx (Av (F.keeps kp) σ e2) fun p hp => I2.kp p (List.mem_append_left _ hp)
    cases q : bindT t d e2 with
    | none =>
      have : fb d e2 B2 = .stuck := by show (match bindT t d e2 with | some τ => _ | none => _) = _; rw [q]
      rw [this] at h2
      exact h2.elim
    | some τ =>
      have e1 : fb d e2 B2 = evSs F.Γ sb τ B2 := by show (match bindT t d e2 with | some τ => _ | none => _) = _; rw [q]
      rw [e1] at h2
      refine ⟨kp, e2, B2, d, τ, I3, hx, q, fun σ' I' _ _ _ => ⟨kp, τ, B2, I', ?_⟩⟩
      show Wish (F.keeps kp) W new (evSs F.Γ sb τ B2) _
      cases q2 : evSs F.Γ sb τ B2 with
      | stuck => rw [q2] at h2; exact h2
      | err c => rw [q2] at h2; exact h2
      | ok pr =>
        obtain ⟨y, B4⟩ := pr
        rw [q2] at h2
        cases y with
        | nx e4 => exact fun σ' H' I' => ⟨e4, B4, I', h2⟩
        | rt d => exact fun v H' r => h2 v H' ⟨r.ext, r.bag, r.dv, r.new⟩
  · rintro σ H2 ⟨e2, B2, I2, h2⟩
    rw [List.drop_length] at h2
    simp only [forL] at h2
    exact h2 σ H2 I2.drop
/-! ### raise -/
theorem s_raise {C : Addr} {bmB : List Value} {Bn newId initId : String} {x msg : Str} {j n : Nat} {p4 : Pos} (hc : X.calm = true) (tk : Tk X F W) (Fb : ExcBaseFacts Bn newId initId bmB) (q : PySem.W.excIn X.K C bmB newId = true) (gC : X.mg x = some (.ref C)) (kC : PySem.W.keepIn X.K (.ref C) = true) (r : Raises X (.ref C)) (hg : Gl X x)
    (hdb : (x == ("__debug__" : Str)) = false) (hn : F.cls n = C) : PS X (.Raise (some (.Call (.Name x p) [.Constant (.str msg) j p2] [] p3)) none p4) (tS F W new (.raise n)) := by
  obtain ⟨W', t', hW⟩ := tk
  refine (L2N.ps_raise hc t' (L2N.pmk_own Fb q gC kC r hg hdb)).imp fun E σ H ⟨e, B, I, A⟩ => ?_
  simp only [evS] at A
  rw [← hn]
  exact hW n σ H (A H I.ext)
end
end PD
set_option linter.all false
set_option maxRecDepth 100000
set_option maxHeartbeats 1000000
/-! From text to the evaluator's forms: expressions. -/
namespace PD
open PySem PySem.Spec PyProof.Rows L2
/-- what is known of a def's text: its slots, scope, written slots, whether it hands back a new list, the bag's slot; defs by name (number, parameters, bag, new), constants, own exceptions, built-ins that no module hides -/
structure Ct where
  N : List Str
  sc : Scope
  top : Bool
  O : List Nat
  new : Bool
  bag : Option Nat
  sb : Bool
  fns : List (Str × Nat × Nat × Bool × Bool)
  gcs : List (Str × Nat)
  excs : List (Str × Nat)
  blts : List Str
  lams : List (Str × Bool) := []
def grd {α : Type} (b : Bool) (x : Option α) : Option α := if b = true then x else none
theorem grd_some {α : Type} {b : Bool} {x : Option α} {y : α} : grd b x = some y ↔ b = true ∧ x = some y := by
  unfold grd
  cases b <;> simp
def slotOf : List Str → Str → Option Nat
  | [], _ => none
  | y :: r, x => if x = y then some 0 else (slotOf r x).map (· + 1)
theorem slotOf_get : ∀ {N : List Str} {x : Str} {i : Nat}, slotOf N x = some i → N[i]? = some x
  | [], _, _, h => by simp [slotOf] at h
  | y :: r, x, i, h => by
    unfold slotOf at h
    split at h
    · rename_i e
      cases h
      rw [e]; rfl
    · obtain ⟨j, hj, rfl⟩ := Option.map_eq_some_iff.mp h
      exact slotOf_get (N := r) hj
def okName (x : Str) : Bool := !(x == ("__debug__" : Str)) && !(x == ("__classdict__" : Str)) && !(x == ("__name__" : Str))
def visB (sc : Scope) (x : Str) : Bool := match sc.names.lookup x with
  | some .local => true
  | some .cell => true
  | some .free => true
  | _ => false
def glB (sc : Scope) (x : Str) : Bool := match sc.names.lookup x with
  | some .globalImplicit => true
  | _ => false
theorem visB_vis {sc : Scope} {x : Str} (h : visB sc x = true) : Vis sc x := by
  unfold visB at h
  split at h
  · exact .inl (by assumption)
  · exact .inr (.inl (by assumption))
  · exact .inr (.inr (by assumption))
  · cases h
theorem glB_gl {sc : Scope} {x : Str} (h : glB sc x = true) : sc.names.lookup x = some .globalImplicit := by
  unfold glB at h
  split at h
  · assumption
  · cases h
theorem okName_1 {x : Str} (h : okName x = true) : (x == ("__debug__" : Str)) = false ∧ (x == ("__classdict__" : Str)) = false ∧ x ≠ "__name__" := by
  simp only [okName, Bool.and_eq_true, Bool.not_eq_true'] at h
  exact ⟨h.1.1, h.1.2, fun e => by rw [e] at h; simp at h⟩
def bltTys : List (Str × String × BltO) := [("int", "int", .int), ("str", "str", .str), ("tuple", "tuple", .tuple), ("list", "list", .list)]
def bltFns : List (Str × String × BltO) := [("len", "len", .len), ("abs", "abs", .abs), ("sum", "sum", .sum), ("any", "any", .any), ("all", "all", .all), ("sorted", "sorted", .sorted)]
def tyNames : List (Str × Ty) := [("int", .int), ("bool", .bool), ("str", .str), ("tuple", .tuple), ("list", .list)]
/-- the context of a lambda's body -/
def lamN (X : Cx) (A : Around) (outer : List Env) (s : Shared) (H : Hp) (E : XK) (scope : Scope) (f c' : Addr) : Cx :=
  (LamX.lamCx X A outer s H E scope f c').wish fun e s' => wpAny (model X.prog X.w) (A.deeper (LamX.lamEnv X scope s.heap.objs.size f c')) (leaving (LamX.lamEnv X scope s.heap.objs.size f c') e) (fun _ s2 => L2N.CX X.prog X.w outer H s E e s2) (fun e2 s2 => L2N.CX X.prog X.w outer H s E e2 s2) s'
/-- x(lambda: body): how a call of the def x that names, or tells, the error of what it gets is read -/
def lamE (b : Bool) (m : ME) : ME := match b with
  | false => .lerr m
  | true => .ltold m
def LamRule (X : Cx) (F : Fx) (x : Str) (lb : Bool) (k : Nat) : Prop := ∀ (body : Expr) (scope : Scope) (lpos p pos : Pos) (m : ME) (W : Nat → Hp → Prop), LamX.LamS X.env.scope scope →
  (∀ (A0 : Addr → Prop) (A : Around) (outer : List Env) (s : Shared) (H : Hp) (E : XK) (f c' : Addr), Room k (A.deeper (LamX.lamEnv X scope s.heap.objs.size f c')) → PE (lamN X A outer s H E scope f c') body (tD { F with A0 := A0 } (fun c H' => E (.ref (F.cls c)) none H') m)) →
  PE X (.Call (.Name x p) [.Lambda ⟨[], [], none, [], [], none, []⟩ body scope lpos] [] pos) (tD F W (lamE lb m))
/-- what the text may lean on -/
structure Gd (X : Cx) (F : Fx) (W : Nat → Hp → Prop) (C : Ct) : Prop where
  N : X.N = C.N
  nd : X.N.Nodup
  sc : X.env.scope = C.sc
  top : C.top = true → ∀ x, X.fn x = true
  calm : X.calm = true
  K : X.K = F.K
  O : F.O = C.O
  un : X.A.units + 65 < cLine
  tk : Tk X F W
  fn : ∀ x f np new, C.fns.lookup x = some (f, np, false, new) → ∃ k g fd ps, FnOk X.prog X.w X.K X.mg X.base (L2N.CX X.prog X.w) k g fd ps (spP F.T F.cls F.Γ.call new X.K f np) ∧ Room k X.A ∧ X.mg x = some (.ref g) ∧ PySem.W.keepIn X.K (.ref g) = true ∧ Binds X.K fd ps []
  fb : ∀ x f np new, C.fns.lookup x = some (f, np, true, new) → ∃ k g fd ps, FnOk X.prog X.w X.K X.mg X.base (L2N.CX X.prog X.w) k g fd ps (spB F.T F.cls F.Γ.callb X.K f np) ∧ Room k X.A ∧ X.mg x = some (.ref g) ∧ PySem.W.keepIn X.K (.ref g) = true ∧ Binds X.K fd ps []
  gc : ∀ x n, C.gcs.lookup x = some n → ∃ v u, X.mg x = some u ∧ RelV v u ∧ ∀ H A, Dv F.K H A (F.Γ.gc n) v
  bl : ∀ x, C.blts.contains x = true → X.mg x = none
  lam : ∀ x lb, C.lams.lookup x = some lb → ∃ k0, (∀ kp, LamRule X { F with kp := kp } x lb k0) ∧
    (∀ x f np new, C.fns.lookup x = some (f, np, false, new) → ∃ k g fd ps, FnOk X.prog X.w X.K X.mg X.base (L2N.CX X.prog X.w) k g fd ps (spP F.T F.cls F.Γ.call new X.K f np) ∧ k ≤ k0 ∧ X.mg x = some (.ref g) ∧ PySem.W.keepIn X.K (.ref g) = true ∧ Binds X.K fd ps []) ∧
    (∀ x f np new, C.fns.lookup x = some (f, np, true, new) → ∃ k g fd ps, FnOk X.prog X.w X.K X.mg X.base (L2N.CX X.prog X.w) k g fd ps (spB F.T F.cls F.Γ.callb X.K f np) ∧ k ≤ k0 ∧ X.mg x = some (.ref g) ∧ PySem.W.keepIn X.K (.ref g) = true ∧ Binds X.K fd ps [])
theorem Gd.gl {X : Cx} {F : Fx} {W : Nat → Hp → Prop} {C : Ct} (G : Gd X F W C) {x : Str} (h : glB C.sc x = true) : Gl X x := by
  show X.env.scope.names.lookup x = _
  rw [G.sc]; exact glB_gl h
theorem Gd.vis {X : Cx} {F : Fx} {W : Nat → Hp → Prop} {C : Ct} (G : Gd X F W C) {x : Str} (h : visB C.sc x = true) : Vis X.env.scope x := by
  rw [G.sc]; exact visB_vis h
theorem Gd.slot {X : Cx} {F : Fx} {W : Nat → Hp → Prop} {C : Ct} (G : Gd X F W C) {x : Str} {i : Nat} (h : slotOf C.N x = some i) : X.N[i]? = some x := by
  rw [G.N]; exact slotOf_get h
abbrev Rec := Ct → Expr → Option (ME × Bool)
/-- Rec is right -/
def Snd (r : Rec) : Prop := ∀ (X : Cx) (F : Fx) (W : Nat → Hp → Prop) (C : Ct) (e : Expr) (m : ME) (b : Bool), Gd X F W C → r C e = some (m, b) → PE X e (tD F W m) ∧ (b = true → PT X e (tT F W m))
section
variable (r : Rec)
def cName (C : Ct) (x : Str) : Option ME := grd (okName x) (if visB C.sc x = true then (slotOf C.N x).map .var else grd (glB C.sc x) ((C.gcs.lookup x).map .gcon))
def cConst : Const → Option ME
  | .none => some (.con .none)
  | .bool b => some (.con (.bool b))
  | .int i => some (.con (.int i))
  | .str x => some (.con (.str x))
  | _ => none
def cEs (C : Ct) : List Expr → Option MEs
  | [] => some .nil
  | e :: es => grd (plainE e) ((r C e).bind fun m => (cEs C es).map fun ms => .cons m.1 ms)
def cB (C : Ct) (op : BoolOp) : List Expr → Option (ME × Bool)
  | [] => none
  | [e] => r C e
  | e :: es => (r C e).bind fun m => (cB C op es).map fun n => ((match op with | .And => ME.andv m.1 n.1 | .Or => ME.orv m.1 n.1), m.2 && n.2)
def cO (C : Ct) : Option Expr → Option MO
  | none => some .no
  | some e => (r C e).map fun m => .so m.1
end
def opB : Operator → Option BinO
  | .Add => some .add
  | .Sub => some .sub
  | .Mult => some .mul
  | .FloorDiv => some .fdiv
  | .Mod => some .mod
  | .Pow => some .pow
  | _ => none
def opC : CmpOp → Option CmpO
  | .Eq => some .eq
  | .NotEq => some .ne
  | .Lt => some .lt
  | .LtE => some .le
  | .Gt => some .gt
  | .GtE => some .ge
  | .In => some .isin
  | .NotIn => some .notin
  | .Is => some .is
  | .IsNot => some .isnot
theorem opB_bop {o : Operator} {b : BinO} (h : opB o = some b) : o = bop b := by cases o <;> simp only [opB] at h <;> first | (cases h; rfl) | cases h
theorem opC_cop {o : CmpOp} {b : CmpO} (h : opC o = some b) : o = cop b := by cases o <;> simp only [opC] at h <;> first | (cases h; rfl) | cases h
section
variable {X : Cx} {F : Fx} {W : Nat → Hp → Prop} {C : Ct} {r : Rec}
theorem cName_ok (G : Gd X F W C) {x : Str} {p : Pos} {m : ME} (h : cName C x = some m) : PE X (.Name x p) (tD F W m) := by
  simp only [cName, grd_some] at h
  obtain ⟨hx, h⟩ := h
  obtain ⟨h1, h2, h3⟩ := okName_1 hx
  split at h
  · rename_i hv
    obtain ⟨i, hi, rfl⟩ := Option.map_eq_some_iff.mp h
    exact d_var (G.slot hi) (G.vis hv) h1 h2
  · obtain ⟨hg, h⟩ := grd_some.mp h
    obtain ⟨n, hn, rfl⟩ := Option.map_eq_some_iff.mp h
    obtain ⟨v, u, hm, rv, hd⟩ := G.gc x n hn
    exact d_gcon (pe_glob (G.gl hg) hm rv h1) hd
theorem cConst_ok (G : Gd X F W C) {c : Const} {j : Nat} {p : Pos} {m : ME} (h : cConst c = some m) : PE X (.Constant c j p) (tD F W m) := by
  cases c with
  | none => simp only [cConst, Option.some.injEq] at h; subst h; exact d_con pe_non fun H A => .ofN
  | bool b => simp only [cConst, Option.some.injEq] at h; subst h; exact d_con pe_bl fun H A => .ofB b
  | int i => simp only [cConst, Option.some.injEq] at h; subst h; exact d_con pe_int fun H A => .ofI i
  | str x => simp only [cConst, Option.some.injEq] at h; subst h; exact d_con pe_str fun H A => .ofS x
  | _ => simp only [cConst] at h; cases h
theorem cEs_ok (S : Snd r) (G : Gd X F W C) : ∀ {es : List Expr} {ms : MEs}, cEs r C es = some ms → PA X es (tA F W ms) ∧ es.all plainE = true ∧ ms.len = es.length
  | [], ms, h => by simp only [cEs, Option.some.injEq] at h; subst h; exact ⟨d_nil, rfl, rfl⟩
  | e :: es, ms, h => by
    simp only [cEs, grd_some, Option.bind_eq_some_iff, Option.map_eq_some_iff] at h
    obtain ⟨hp, m, hm, ms', hms, rfl⟩ := h
    obtain ⟨h1, h2, h3⟩ := cEs_ok S G hms
    exact ⟨d_cons (S X F W C e m.1 m.2 G hm).1 h1 (star_plain hp), by simp [hp, h2], by show ms'.len + 1 = es.length + 1; rw [h3]⟩
theorem cB_ok (S : Snd r) (G : Gd X F W C) {op : BoolOp} {p : Pos} : ∀ {es : List Expr} {m : ME} {b : Bool}, cB r C op es = some (m, b) → PE X (.BoolOp op es p) (tD F W m) ∧ (b = true → PW X (.BoolOp op es p) (tT F W m))
  | [], m, b, h => by simp only [cB] at h; cases h
  | [e], m, b, h => by
    simp only [cB] at h
    obtain ⟨h1, h2⟩ := S X F W C e m b G h
    refine ⟨d_bo1 h1, fun hb => ?_⟩
    cases op with
    | And => exact dW_and1 (h2 hb)
    | Or => exact dW_or1 (h2 hb)
  | e :: e2 :: es, m, b, h => by
    rw [cB] at h
    · simp only [Option.bind_eq_some_iff, Option.map_eq_some_iff] at h
      obtain ⟨n, hn, n2, hn2, e1⟩ := h
      cases e1
      obtain ⟨h1, h2⟩ := S X F W C e n.1 n.2 G hn
      obtain ⟨h3, h4⟩ := cB_ok S G (p := p) hn2
      cases op with
      | And => exact ⟨d_and h1 h3, fun hb => by
          simp only [Bool.and_eq_true] at hb
          exact dW_and (h2 hb.1) (h4 hb.2)⟩
      | Or => exact ⟨d_or h1 h3, fun hb => by
          simp only [Bool.and_eq_true] at hb
          exact dW_or (h2 hb.1) (h4 hb.2)⟩
    · intro h; cases h
theorem cO_ok (S : Snd r) (G : Gd X F W C) {e : Option Expr} {m : MO} (h : cO r C e = some m) : PO X e (tOp' F W m) := by
  cases e with
  | none => simp only [cO, Option.some.injEq] at h; subst h; exact do_none
  | some e =>
    simp only [cO, Option.map_eq_some_iff] at h
    obtain ⟨n, hn, rfl⟩ := h
    exact do_some (S X F W C e n.1 n.2 G hn).1
end
end PD
set_option linter.all false
set_option maxRecDepth 100000
set_option maxHeartbeats 1000000
/-! From text to the evaluator's forms: calls, targets, iterables, comprehensions. -/
namespace PD
open PySem PySem.Spec PyProof.Rows L2
theorem asg_plain {a : Expr} {es : List Expr} {env : Env} (h : plainE a = true) : assignEach (a :: es) env = (false, assign a env) :: assignEach es env := by
  cases a <;> first | rfl | cases h
theorem asg_len {env : Env} : ∀ es : List Expr, (assignEach es env).length = es.length
  | [] => rfl
  | a :: es => by
    have ih := asg_len (env := env) es
    cases a <;> (show (assignEach es env).length + 1 = es.length + 1; rw [ih])
theorem asg_find {env : Env} : ∀ {es : List Expr}, es.all plainE = true → (assignEach es env).findIdx? (·.1) = none
  | [], _ => rfl
  | a :: es, h => by
    obtain ⟨h1, h2⟩ := Bool.and_eq_true_iff.mp (List.all_cons ▸ h)
    rw [asg_plain h1, List.findIdx?_cons, asg_find h2]
    rfl
/-! ### targets -/
def locB (C : Ct) (x : Str) : Bool := match C.sc.names.lookup x with
  | some .local => true
  | some .cell => C.top
  | _ => false
theorem locB_ok {X : Cx} {F : Fx} {W : Nat → Hp → Prop} {C : Ct} (G : Gd X F W C) {x : Str} (h : locB C x = true) : Loc X.env.scope x ∧ (X.fn x = true ∨ X.env.scope.names.lookup x = some .local) := by
  rw [G.sc]
  unfold locB at h
  split at h
  · rename_i q
    exact ⟨.inl q, .inr q⟩
  · rename_i q
    exact ⟨.inr q, .inl (G.top h x)⟩
  · cases h
def cGn (C : Ct) (x : Str) : Option Nat := grd (locB C x) ((slotOf C.N x).bind fun i => grd (!C.O.contains i) (some i))
mutual
def cG : Nat → Ct → Expr → Option Tgt
  | n + 1, C, .Name x _ => (cGn C x).map .nm
  | n + 1, C, .Tuple es _ _ => (cGs n C es).map .tp
  | _, _, _ => none
def cGs : Nat → Ct → List Expr → Option (List Tgt)
  | _, _, [] => some []
  | n + 1, C, e :: es => grd (plainE e) ((cG n C e).bind fun t => (cGs n C es).map fun ts => t :: ts)
  | 0, _, _ :: _ => none
end
section
variable {X : Cx} {F : Fx} {W : Nat → Hp → Prop} {C : Ct}
theorem cGn_ok (G : Gd X F W C) {x : Str} {i : Nat} {p : Pos} (h : cGn C x = some i) : PG X (.Name x p) (gD F (.nm i)) := by
  simp only [cGn, grd_some, Option.bind_eq_some_iff] at h
  obtain ⟨h1, j, h2, h3, e⟩ := h
  cases e
  obtain ⟨q1, q2⟩ := locB_ok G h1
  exact g_nm G.nd (G.slot h2) q1 q2 (by rw [G.O]; simpa using h3)
mutual
theorem cG_ok (G : Gd X F W C) : ∀ (n : Nat) {e : Expr} {t : Tgt}, cG n C e = some t → PG X e (gD F t)
  | 0, e, t, h => by cases e <;> simp only [cG] at h <;> cases h
  | n + 1, e, t, h => by
    cases e with
    | Name x p =>
      simp only [cG] at h
      obtain ⟨i, hi, rfl⟩ := Option.map_eq_some_iff.mp h
      exact cGn_ok G hi
    | Tuple es k p =>
      simp only [cG] at h
      obtain ⟨ts, hts, rfl⟩ := Option.map_eq_some_iff.mp h
      obtain ⟨h1, h2, h3⟩ := cGs_ok G n hts
      exact g_tp G.calm G.K h1 (by rw [asg_len, h3]) (asg_find h2)
    | _ => simp only [cG] at h; cases h
theorem cGs_ok (G : Gd X F W C) : ∀ (n : Nat) {es : List Expr} {ts : List Tgt}, cGs n C es = some ts → PGs X es (gDs F ts) ∧ es.all plainE = true ∧ ts.length = es.length
  | n, [], ts, h => by
    cases n <;> (simp only [cGs, Option.some.injEq] at h; subst h; exact ⟨g_nil, rfl, rfl⟩)
  | 0, e :: es, ts, h => by simp only [cGs] at h; cases h
  | n + 1, e :: es, ts, h => by
    simp only [cGs, grd_some, Option.bind_eq_some_iff, Option.map_eq_some_iff] at h
    obtain ⟨hp, t, ht, ts', hts, rfl⟩ := h
    obtain ⟨h1, h2, h3⟩ := cGs_ok G n hts
    exact ⟨g_cons (cG_ok G n ht) h1 (by rw [asg_plain hp]; rfl), by simp [hp, h2], by simp [h3]⟩
end
end
/-! ### built-ins -/
theorem boots_fn : (bltFns.all fun t => decide (bootBuiltins t.1 = some (.builtin t.2.1))) = true := by decide +kernel
theorem boots_ty : (bltTys.all fun t => decide (bootBuiltins t.1 = some (.type t.2.1))) = true := by decide +kernel
theorem boots_tn : (tyNames.all fun t => decide (bootBuiltins t.1 = some (.type (tyN t.2)))) = true := by decide +kernel
theorem boot_isi : bootBuiltins "isinstance" = some (.builtin "isinstance") := by decide +kernel
theorem boot_mx : bootBuiltins "max" = some (.builtin "max") := by decide +kernel
theorem boot_mn : bootBuiltins "min" = some (.builtin "min") := by decide +kernel
theorem mem_of_lk {α : Type} : ∀ {l : List (Str × α)} {x : Str} {v : α}, l.lookup x = some v → (x, v) ∈ l
  | (k, w) :: r, x, v, h => by
    rw [List.lookup_cons] at h
    split at h
    · rename_i e
      cases h
      rw [eq_of_beq e]
      exact List.mem_cons_self
    · exact List.mem_cons_of_mem _ (mem_of_lk h)
section
variable (r : Rec)
def cBlt (C : Ct) (x : Str) : List Expr → Option ME
  | [a] => grd (plainE a) ((r C a).bind fun m => match bltFns.lookup x with
    | some (_, o) => some (.blt o m.1)
    | none => (match bltTys.lookup x with
      | some (_, o) => some (.blt o m.1)
      | none => none))
  | [a, b] => grd (plainE a && plainE b) ((r C a).bind fun m =>
      if x = "isinstance" then (match b with
        | .Name y _ => grd (okName y && glB C.sc y && C.blts.contains y) ((tyNames.lookup y).map fun t => .isi m.1 t)
        | _ => none)
      else if x = "max" then (r C b).map fun n => .blt2 .max m.1 n.1
      else if x = "min" then (r C b).map fun n => .blt2 .min m.1 n.1
      else none)
  | _ => none
def cCall (C : Ct) (x : Str) (args : List Expr) : Option ME := grd (okName x && glB C.sc x) (match C.fns.lookup x with
  | some (f, np, false, _) => (match args with
    | [] => none
    | a :: es => (cEs r C (a :: es)).bind fun ms => grd (ms.len == np) (some (.call f ms)))
  | some (f, np, true, _) => (match args with
    | .Name y _ :: es => C.bag.bind fun i => grd (okName y && visB C.sc y && (slotOf C.N y == some i)) ((cEs r C es).bind fun ms => grd (ms.len + 1 == np) (some (.callb i f ms)))
    | _ => none)
  | none => grd (C.blts.contains x) (cBlt r C x args))
end
section
variable {X : Cx} {F : Fx} {W : Nat → Hp → Prop} {C : Ct} {r : Rec} {p pos : Pos}
theorem bltFn_ok (hc : X.calm = true) {id : String} {o : BltO} {x : Str} (h : (x, id, o) ∈ bltFns) : CallR X (.builtin id) (rC1 X.K (bltD o)) := by
  simp only [bltFns, List.mem_cons, List.not_mem_nil, or_false, Prod.mk.injEq] at h
  rcases h with ⟨_, rfl, rfl⟩ | ⟨_, rfl, rfl⟩ | ⟨_, rfl, rfl⟩ | ⟨_, rfl, rfl⟩ | ⟨_, rfl, rfl⟩ | ⟨_, rfl, rfl⟩
  · exact call_lenD
  · exact call_absD
  · exact call_sumD hc
  · exact call_anyD hc
  · exact call_allD hc
  · exact call_sortedD
theorem bltTy_ok {id : String} {o : BltO} {x : Str} (h : (x, id, o) ∈ bltTys) : CallR X (.type id) (rC1 X.K (bltD o)) := by
  simp only [bltTys, List.mem_cons, List.not_mem_nil, or_false, Prod.mk.injEq] at h
  rcases h with ⟨_, rfl, rfl⟩ | ⟨_, rfl, rfl⟩ | ⟨_, rfl, rfl⟩ | ⟨_, rfl, rfl⟩
  · exact call_intD
  · exact call_strD
  · exact call_tupleD
  · exact call_listD
theorem cBlt_ok (S : Snd r) (G : Gd X F W C) {x : Str} {args : List Expr} {m : ME} (hx : okName x = true) (hg : glB C.sc x = true) (hb : C.blts.contains x = true) (h : cBlt r C x args = some m) : PE X (.Call (.Name x p) args [] pos) (tD F W m) := by
  obtain ⟨x1, x2, x3⟩ := okName_1 hx
  unfold cBlt at h
  split at h
  · rename_i a
    simp only [grd_some, Option.bind_eq_some_iff] at h
    obtain ⟨hp, n, hn, h⟩ := h
    have ha := (S X F W C a n.1 n.2 G hn).1
    split at h
    · rename_i id o hl
      cases h
      have hm := mem_of_lk hl
      have hbt := List.all_eq_true.mp boots_fn _ hm
      exact d_bltB (bltFn_ok G.calm hm) G.K (G.gl hg) (G.bl x hb) (of_decide_eq_true hbt) ha hp x3 x1
    · split at h
      · rename_i id o hl
        cases h
        have hm := mem_of_lk hl
        have hbt := List.all_eq_true.mp boots_ty _ hm
        exact d_bltT (bltTy_ok hm) G.K (G.gl hg) (G.bl x hb) (of_decide_eq_true hbt) ha hp x3 x1
      · cases h
  · rename_i a b
    simp only [grd_some, Option.bind_eq_some_iff, Bool.and_eq_true] at h
    obtain ⟨⟨hp, hp2⟩, n, hn, h⟩ := h
    have ha := (S X F W C a n.1 n.2 G hn).1
    split at h
    · rename_i e
      subst e
      split at h
      · rename_i y p2
        simp only [grd_some, Option.map_eq_some_iff, Bool.and_eq_true] at h
        obtain ⟨⟨⟨y1, y2⟩, y3⟩, t, ht, rfl⟩ := h
        obtain ⟨z1, z2, z3⟩ := okName_1 y1
        have hbt := List.all_eq_true.mp boots_tn _ (mem_of_lk ht)
        exact d_isi G.K (G.gl hg) (G.bl _ hb) boot_isi (G.gl y2) (G.bl y y3) (of_decide_eq_true hbt) ha hp x3 x1 z3 z1
      · cases h
    · split at h
      · rename_i e
        subst e
        obtain ⟨n2, hn2, rfl⟩ := Option.map_eq_some_iff.mp h
        exact d_blt2 (call_max2D G.calm) G.K (G.gl hg) (G.bl _ hb) boot_mx ha (S X F W C b n2.1 n2.2 G hn2).1 hp hp2 x3 x1
      · split at h
        · rename_i e
          subst e
          obtain ⟨n2, hn2, rfl⟩ := Option.map_eq_some_iff.mp h
          exact d_blt2 (call_min2D G.calm) G.K (G.gl hg) (G.bl _ hb) boot_mn ha (S X F W C b n2.1 n2.2 G hn2).1 hp hp2 x3 x1
        · cases h
  · cases h
theorem cCall_ok (S : Snd r) (G : Gd X F W C) {x : Str} {args : List Expr} {m : ME} (h : cCall r C x args = some m) : PE X (.Call (.Name x p) args [] pos) (tD F W m) := by
  simp only [cCall, grd_some, Bool.and_eq_true] at h
  obtain ⟨⟨hx, hg⟩, h⟩ := h
  obtain ⟨x1, x2, x3⟩ := okName_1 hx
  split at h
  · rename_i f np new hl
    split at h
    · cases h
    · rename_i a es
      simp only [grd_some, Option.bind_eq_some_iff] at h
      obtain ⟨ms, hms, hn, e⟩ := h
      cases e
      obtain ⟨h1, h2, h3⟩ := cEs_ok S G hms
      obtain ⟨k, g, fd, ps, q1, q2, q3, q4, q5⟩ := G.fn x f np new hl
      obtain ⟨hp, hps⟩ := Bool.and_eq_true_iff.mp (List.all_cons ▸ h2)
      exact d_call q1 q2 (G.gl hg) q3 q4 q5 G.tk G.K (eq_of_beq hn) h1 x1 hp hps
  · rename_i f np new hl
    split at h
    · rename_i y p2 es
      simp only [grd_some, Option.bind_eq_some_iff, Bool.and_eq_true] at h
      obtain ⟨i, hi, ⟨⟨y1, y2⟩, y3⟩, ms, hms, hn, e⟩ := h
      cases e
      obtain ⟨z1, z2, z3⟩ := okName_1 y1
      obtain ⟨h1, h2, h3⟩ := cEs_ok S G hms
      obtain ⟨k, g, fd, ps, q1, q2, q3, q4, q5⟩ := G.fb x f np new hl
      exact d_callb q1 q2 (G.gl hg) q3 q4 q5 G.tk G.K (eq_of_beq hn) (G.slot (eq_of_beq y3)) (G.vis y2) z1 z2 h1 x1 h2
    · cases h
  · rename_i hl
    obtain ⟨hb, h⟩ := grd_some.mp h
    exact cBlt_ok S G hx hg hb h
end
/-! ### iterables -/
def isTup : Expr → Bool
  | .Tuple .. => true
  | _ => false
def noSet : Expr → Bool
  | .Set .. => false
  | _ => true
theorem noSet_ok {e : Expr} {env : Env} (h : noSet e = true) (x : Value) : foldedSetIterable e env x = pure x := by
  cases e <;> first | rfl | cases h
section
variable (r : Rec)
def cSq (C : Ct) (e : Expr) : Option MI := (r C e).bind fun m => grd (ss C.O m.1) (some (.seq m.1))
def cI (C : Ct) (tg : Expr) (e : Expr) : Option MI := match e with
  | .Call (.Name x _) args [] _ => if x = "range" then (match args with
      | [a] => grd (glB C.sc x && C.blts.contains x && plainE a) ((r C a).map fun m => .rng1 m.1)
      | [a, b] => grd (glB C.sc x && C.blts.contains x && plainE a && plainE b) ((r C a).bind fun m => (r C b).map fun n => .rng2 m.1 n.1)
      | _ => none)
    else if x = "zip" then (match args with
      | [a, b] => grd (glB C.sc x && C.blts.contains x && plainE a && plainE b && isTup tg) ((r C a).bind fun m => (r C b).bind fun n => grd (ss C.O m.1 && ss C.O n.1) (some (.zip m.1 n.1)))
      | _ => none)
    else if x = "enumerate" then (match args with
      | [a] => grd (glB C.sc x && C.blts.contains x && plainE a && isTup tg) ((r C a).bind fun m => grd (ss C.O m.1) (some (.enum m.1)))
      | _ => none)
    else cSq r C e
  | _ => cSq r C e
end
section
variable {X : Cx} {F : Fx} {W : Nat → Hp → Prop} {C : Ct} {r : Rec} {p pos : Pos}
theorem cSq_ok (S : Snd r) (G : Gd X F W C) {tg e : Expr} {mi : MI} (h : cSq r C e = some mi) : PI X tg e (iD F W mi) := by
  simp only [cSq, grd_some, Option.bind_eq_some_iff] at h
  obtain ⟨m, hm, hs, e1⟩ := h
  cases e1
  exact i_seq G.K (by rw [G.O]; exact hs) (S X F W C e m.1 m.2 G hm).1
theorem cI_ok (S : Snd r) (G : Gd X F W C) {tg e : Expr} {mi : MI} (h : cI r C tg e = some mi) : PI X tg e (iD F W mi) := by
  unfold cI at h
  split at h
  · rename_i x p1 args p2
    split at h
    · rename_i e1
      subst e1
      split at h
      · simp only [grd_some, Option.map_eq_some_iff, Bool.and_eq_true] at h
        obtain ⟨⟨⟨h1, h2⟩, h3⟩, m, hm, rfl⟩ := h
        exact i_rng1 (G.gl h1) (G.bl _ h2) (S X F W C _ m.1 m.2 G hm).1 h3
      · simp only [grd_some, Option.map_eq_some_iff, Option.bind_eq_some_iff, Bool.and_eq_true] at h
        obtain ⟨⟨⟨⟨h1, h2⟩, h3⟩, h4⟩, m, hm, n, hn, rfl⟩ := h
        exact i_rng2 (G.gl h1) (G.bl _ h2) (S X F W C _ m.1 m.2 G hm).1 (S X F W C _ n.1 n.2 G hn).1 h3 h4
      · cases h
    · split at h
      · rename_i e1
        subst e1
        split at h
        · simp only [grd_some, Option.bind_eq_some_iff, Bool.and_eq_true] at h
          obtain ⟨⟨⟨⟨⟨h1, h2⟩, h3⟩, h4⟩, h5⟩, m, hm, n, hn, ⟨s1, s2⟩, e2⟩ := h
          cases e2
          cases tg with
          | Tuple elts kk tp => exact i_zip G.K (G.gl h1) (G.bl _ h2) (by rw [G.O]; exact s1) (by rw [G.O]; exact s2) (S X F W C _ m.1 m.2 G hm).1 (S X F W C _ n.1 n.2 G hn).1 h3 h4
          | _ => cases h5
        · cases h
      · split at h
        · rename_i e1
          subst e1
          split at h
          · simp only [grd_some, Option.bind_eq_some_iff, Bool.and_eq_true] at h
            obtain ⟨⟨⟨⟨h1, h2⟩, h3⟩, h5⟩, m, hm, s1, e2⟩ := h
            cases e2
            cases tg with
            | Tuple elts kk tp => exact i_enum G.K (G.gl h1) (G.bl _ h2) (by rw [G.O]; exact s1) (S X F W C _ m.1 m.2 G hm).1 h3
            | _ => cases h5
          · cases h
        · exact cSq_ok S G h
  · exact cSq_ok S G h
end
/-! ### comprehensions -/
def ownOf (N : List Str) : List (Str × NameKind) → List (Str × Nat)
  | [] => []
  | (x, .local) :: l => (match slotOf N x with
    | some i => (x, i) :: ownOf N l
    | none => ownOf N l)
  | (x, .cell) :: l => (match slotOf N x with
    | some i => (x, i) :: ownOf N l
    | none => ownOf N l)
  | _ :: l => ownOf N l
def Ct.inB (C : Ct) (scope : Scope) : Ct := { C with sc := relS scope C.sc, top := false, lams := [] }
def cIfs (r : Rec) (C : Ct) : List Expr → Option MO
  | [] => some .no
  | [c] => (r C c).bind fun m => grd m.2 (some (.so m.1))
  | _ => none
def cComp (r : Rec) (C : Ct) (elt tg iter : Expr) (ifs : List Expr) (scope : Scope) : Option ME :=
  grd (blkC C.N C.sc scope (ownOf C.N scope.names) && (ownOf C.N scope.names).all (fun p => !C.O.contains p.2) && noSet iter) ((cI r C tg iter).bind fun mi => (cG 12 (C.inB scope) tg).bind fun t =>
    grd (t.idx.all fun j => ((ownOf C.N scope.names).map (·.2)).contains j) ((cIfs r (C.inB scope) ifs).bind fun mc => (r (C.inB scope) elt).map fun m => .comp m.1 t mi mc ((ownOf C.N scope.names).map (·.2))))
section
variable {X : Cx} {F : Fx} {W : Nat → Hp → Prop} {C : Ct} {r : Rec} {p pos : Pos}
theorem Gd.blk (G : Gd X F W C) (scope : Scope) (D : Addr) (s : Shared) (H : Hp) (A : Addr) (cl : List (Str × Addr)) (fp : List Addr) : Gd (X.blk s H scope (compEnvC scope cl A X.env) fp) (F.with D) (fun _ _ => False) (C.inB scope) := by
  refine ⟨G.N, G.nd, ?_, fun h => (by cases h), G.calm, G.K, G.O, G.un, ⟨fun _ _ _ _ => False, takesN, fun _ _ _ h => h⟩, fun x f np new h => ?_, fun x f np new h => ?_, fun x n h => G.gc x n h, G.bl, fun x lb h => by cases h⟩
  · show relS scope X.env.scope = relS scope C.sc
    rw [G.sc]
  · exact G.fn x f np new h
  · exact G.fb x f np new h
theorem cIfs_ok (S : Snd r) (G : Gd X F W C) {ifs : List Expr} {mc : MO} (h : cIfs r C ifs = some mc) : PTs X ifs (tC F W mc) := by
  unfold cIfs at h
  split at h
  · cases h; exact c_no
  · rename_i c
    simp only [grd_some, Option.bind_eq_some_iff] at h
    obtain ⟨m, hm, hb, e⟩ := h
    cases e
    exact c_so ((S X F W C c m.1 m.2 G hm).2 hb)
  · cases h
/-- the parts of a comprehension -/
structure CompOk (X : Cx) (F : Fx) (W : Nat → Hp → Prop) (elt tg iter : Expr) (ifs : List Expr) (scope : Scope) (own : List (Str × Nat)) (me : ME) (t : Tgt) (mi : MI) (mc : MO) : Prop where
  hi : PI X tg iter (iD F W mi)
  ok : BlkOk X.N X.env.scope scope own
  hO : ∀ p ∈ own, p.2 ∉ F.O
  hidx : ∀ j ∈ t.idx, j ∈ own.map (·.2)
  hg : ∀ (D : Addr) (s : Shared) (H : Hp) (C : Addr) (cl : List (Str × Addr)) (fp : List Addr), PG (X.blk s H scope (compEnvC scope cl C X.env) fp) tg (gD (F.with D) t)
  ht : ∀ (D : Addr) (s : Shared) (H : Hp) (C : Addr) (cl : List (Str × Addr)) (fp : List Addr), PTs (X.blk s H scope (compEnvC scope cl C X.env) fp) ifs (tC (F.with D) (fun _ _ => False) mc)
  he : ∀ (D : Addr) (s : Shared) (H : Hp) (C : Addr) (cl : List (Str × Addr)) (fp : List Addr), PE (X.blk s H scope (compEnvC scope cl C X.env) fp) elt (tD (F.with D) (fun _ _ => False) me)
  hs : ∀ x, foldedSetIterable iter X.env x = pure x
theorem cComp_parts (S : Snd r) (G : Gd X F W C) {elt tg iter : Expr} {ifs : List Expr} {scope : Scope} {m : ME} (h : cComp r C elt tg iter ifs scope = some m) :
    ∃ me t mi mc, m = .comp me t mi mc ((ownOf C.N scope.names).map (·.2)) ∧ CompOk X F W elt tg iter ifs scope (ownOf C.N scope.names) me t mi mc := by
  simp only [cComp, grd_some, Option.bind_eq_some_iff, Option.map_eq_some_iff, Bool.and_eq_true] at h
  obtain ⟨⟨⟨h1, h2⟩, h3⟩, mi, hmi, t, ht, hidx, mc, hmc, n, hn, rfl⟩ := h
  refine ⟨n.1, t, mi, mc, rfl, cI_ok S G hmi, ?_, fun p hp => ?_, fun j hj => ?_, fun D s H A cl fp => cG_ok (G.blk scope D s H A cl fp) 12 ht, fun D s H A cl fp => cIfs_ok S (G.blk scope D s H A cl fp) hmc, fun D s H A cl fp => (S _ _ _ _ elt n.1 n.2 (G.blk scope D s H A cl fp) hn).1, noSet_ok h3⟩
  · rw [G.N, G.sc]
    exact blkOk_by h1
  · have := List.all_eq_true.mp h2 p hp
    rw [G.O]
    simpa using this
  · have := List.all_eq_true.mp hidx j hj
    simpa using this
theorem CompOk.pe {elt tg iter : Expr} {ifs : List Expr} {scope : Scope} {own : List (Str × Nat)} {me : ME} {t : Tgt} {mi : MI} {mc : MO} (G : Gd X F W C) (h : CompOk X F W elt tg iter ifs scope own me t mi mc) :
    PE X (.ListComp elt [⟨tg, iter, ifs, 0⟩] scope pos) (tF F W (.comp me t mi mc (own.map (·.2)))) := d_comp G.calm G.nd h.hi h.ok h.hO h.hidx h.hg h.ht h.he h.hs
theorem cComp_ok (S : Snd r) (G : Gd X F W C) {elt tg iter : Expr} {ifs : List Expr} {scope : Scope} {m : ME} (h : cComp r C elt tg iter ifs scope = some m) : PE X (.ListComp elt [⟨tg, iter, ifs, 0⟩] scope pos) (tF F W m) := by
  obtain ⟨me, t, mi, mc, rfl, k⟩ := cComp_parts S G h
  exact k.pe G
end
end PD
set_option linter.all false
set_option maxRecDepth 100000
set_option maxHeartbeats 1000000
/-! From text to the evaluator's forms: every expression. -/
namespace PD
open PySem PySem.Spec PyProof.Rows L2
section
variable {X : Cx} {F : Fx} {W : Nat → Hp → Prop} {p p2 pos : Pos}
theorem dT_bagne {i : Nat} {y : Str} (hN : X.N[i]? = some y) (hu : X.A.units + 65 < cLine) (hv : Vis X.env.scope y) (hd : (y == ("__debug__" : Str)) = false) (hcd : (y == ("__classdict__" : Str)) = false) :
    PT X (.Compare (.Name y p) [.NotEq] [.List [] p2] pos) (tT F W (.bagne i)) := by
  refine (pt_cmpR (op_neD (by omega)) (pe_var hN hv hd hcd) (pe_lst pa_nil) rfl).imp fun σ H Q ⟨e, B, I, A⟩ => ?_
  simp only [ev] at A
  cases q : e[i]? with
  | none => rw [q] at A; exact A.elim
  | some z =>
    rw [q] at A
    cases z with
    | bag =>
      obtain ⟨_, b, e1, e2, _⟩ := I.bag i q
      refine ⟨_, e1, Nat.zero_le _, fun p hp => ⟨.list (B.map .int), .list [], .lst (SqL.of (same_new hp _ _ e2)) (DvAll.dp (A := none_) _ (.ofInts _)), .lst (SqL.of upd_same) .nil, shaped_ints B, rfl, ?_⟩⟩
      have eb : (!PyData.eqv (.list (B.map .int)) (.list [])) = !B.isEmpty := by cases B <;> rfl
      rw [eb]
      obtain ⟨k, hk, q⟩ := A _ (I.here.same (same_new hp))
      cases hk
      exact ⟨_, rfl, q⟩
    | _ => exact A.elim
end
def baseE : Expr → Bool
  | .Call .. => false
  | _ => true
theorem baseE_ok {o : Expr} {a : Str} {env : Env} {w : Sem Value} (h : baseE o = true) : attributeBase o a env w = w := by
  cases o <;> first | rfl | cases h
section
variable (r : Rec)
def cAttr (C : Ct) (o : Expr) (name : Str) (apos : Pos) (args : List Expr) (pos : Pos) : Option ME := match args with
  | [a] => if name = "pop" then (match o, a with
      | .Name y _, .Constant (.int 0) _ _ => C.bag.bind fun i => grd (okName y && visB C.sc y && (slotOf C.N y == some i) && (apos.endLine == pos.line)) (some (.bagpop i))
      | _, _ => none)
    else if name = "join" then grd (baseE o && plainE a && (apos.endLine == pos.line)) ((r C o).bind fun m => (r C a).map fun n => .join m.1 n.1)
    else if name = "split" then grd (baseE o && plainE a && (apos.endLine == pos.line)) ((r C o).bind fun m => (r C a).map fun n => .split m.1 n.1)
    else none
  | _ => none
def cCmp (C : Ct) (a : Expr) (ops : List CmpOp) (bs : List Expr) : Option ME := match ops, bs with
  | [o], [b] => (match a, o, b with
    | .Name y _, .NotEq, .List [] _ => if C.bag.isSome && (slotOf C.N y == C.bag) then C.bag.bind fun i => grd (okName y && visB C.sc y) (some (.bagne i))
      else (r C a).bind fun m => (r C b).map fun n => .cmp .ne m.1 n.1
    | _, _, _ => (opC o).bind fun o' => grd (!behindInMarks o b) ((r C a).bind fun m => (r C b).map fun n => .cmp o' m.1 n.1))
  | [o, o'], [b, c] => (opC o).bind fun q => (opC o').bind fun q' => grd (!lastMarks [o, o'] [b, c]) ((r C a).bind fun m => (r C b).bind fun n => (r C c).map fun k => .chain q q' m.1 n.1 k.1)
  | _, _ => none
def cBin (C : Ct) (a : Expr) (op : Operator) (b : Expr) : Option ME := match a, op with
  | .List es _, .Mult => (cEs r C es).bind fun ms => grd (decide (ms.len ≤ 1000)) ((r C b).map fun n => .lrep ms n.1)
  | _, _ => (opB op).bind fun o => (r C a).bind fun m => (r C b).map fun n => .bin o m.1 n.1
def cSset (C : Ct) (x : Str) (args : List Expr) : Option ME := match args with
  | [.Call (.Name y _) [b] [] _] => grd (decide (x = "sorted") && decide (y = "set") && glB C.sc x && glB C.sc y && C.blts.contains x && C.blts.contains y && plainE b) ((r C b).map fun m => .blt .sset m.1)
  | _ => none
def cLrng (C : Ct) (x : Str) (args : List Expr) : Option ME := match args with
  | [.Call (.Name y _) [b] [] _] => grd (decide (x = "list") && decide (y = "range") && glB C.sc x && glB C.sc y && C.blts.contains x && C.blts.contains y && plainE b) ((r C b).map fun m => .blt .lrng m.1)
  | _ => none
def cSub (C : Ct) (a : Expr) (s : Expr) : Option ME := match s with
  | .Slice none none (some (.UnaryOp .USub (.Constant (.int i) _ _) _)) _ => grd (i == 1) ((r C a).map fun m => .blt .rev m.1)
  | .Slice none (some (.Constant (.int j) _ _)) (some (.UnaryOp .USub (.Constant (.int i) _ _) _)) _ => grd (i == 1 && j == 0) ((r C a).map fun m => .blt .revt m.1)
  | .Slice lo hi none _ => (r C a).bind fun m => (cO r C lo).bind fun l => (cO r C hi).map fun h => .sl m.1 l h
  | .Slice .. => none
  | _ => (r C a).bind fun m => (r C s).map fun n => .ix m.1 n.1
def Ct.inL (C : Ct) (scope : Scope) : Ct := { C with sc := scope, top := false, bag := none, lams := [] }
def cLam (C : Ct) (x : Str) (args : List Expr) : Option ME := match args with
  | [.Lambda ⟨[], [], none, [], [], none, []⟩ body scope _] => (C.lams.lookup x).bind fun lb => grd (LamX.lamSB C.sc scope) ((r (C.inL scope) body).map fun m => lamE lb m.1)
  | _ => none
def stepE (C : Ct) (e : Expr) : Option (ME × Bool) := match e with
  | .Name x _ => (cName C x).map fun m => (m, true)
  | .Constant c _ _ => (cConst c).map fun m => (m, true)
  | .Tuple es _ _ => (cEs r C es).bind fun ms => grd (decide (ms.len ≤ 1000)) (some (.tup ms, true))
  | .List es _ => (cEs r C es).bind fun ms => grd (decide (ms.len ≤ 1000)) (some (.lst ms, true))
  | .BinOp a op b _ => (cBin r C a op b).map fun m => (m, true)
  | .UnaryOp .Not a _ => (r C a).map fun m => (.nt m.1, m.2)
  | .UnaryOp .USub a _ => (r C a).map fun m => (.blt .neg m.1, true)
  | .Compare a ops bs _ => (cCmp r C a ops bs).map fun m => (m, true)
  | .BoolOp op es _ => cB r C op es
  | .IfExp c a b _ => (r C c).bind fun k => grd k.2 ((r C a).bind fun m => (r C b).map fun n => (.ite k.1 m.1 n.1, false))
  | .Subscript a s _ => (cSub r C a s).map fun m => (m, true)
  | .FormattedValue a (-1) none _ => (r C a).map fun m => (.blt .fmt m.1, true)
  | .JoinedStr (a :: b :: es) _ => (cEs r C (a :: b :: es)).map fun ms => (.js ms, true)
  | .Call (.Name x _) args [] _ => (match cLrng r C x args with
    | some m => some (m, true)
    | none => (match cSset r C x args with
    | some m => some (m, true)
    | none => (match cLam r C x args with
      | some m => some (m, true)
      | none => (cCall r C x args).map fun m => (m, true))))
  | .Call (.Attribute o name apos) args [] pos => (cAttr r C o name apos args pos).map fun m => (m, true)
  | .ListComp elt [⟨tg, iter, ifs, z⟩] scope _ => grd (z == 0) ((cComp r C elt tg iter ifs scope).map fun m => (m, true))
  | _ => none
end
section
variable {X : Cx} {F : Fx} {W : Nat → Hp → Prop} {C : Ct} {r : Rec} {p pos : Pos}
theorem val_both {e : Expr} {m : ME} {b : Bool} (h : PE X e (tD F W m)) (v : valTest e = true) : PE X e (tD F W m) ∧ (b = true → PT X e (tT F W m)) := ⟨h, fun _ => dT_val h (isTrue_val v)⟩
theorem cAttr_ok (S : Snd r) (G : Gd X F W C) {o : Expr} {name : Str} {apos : Pos} {args : List Expr} {m : ME} (h : cAttr r C o name apos args pos = some m) : PE X (.Call (.Attribute o name apos) args [] pos) (tD F W m) := by
  unfold cAttr at h
  split at h
  · rename_i a
    split at h
    · rename_i e
      subst e
      split at h
      · rename_i y p1 j p2
        simp only [grd_some, Option.bind_eq_some_iff, Bool.and_eq_true] at h
        obtain ⟨i, hi, ⟨⟨⟨h1, h2⟩, h3⟩, h4⟩, e⟩ := h
        cases e
        obtain ⟨z1, z2, z3⟩ := okName_1 h1
        exact d_bagpop (p4 := pos) (G.slot (eq_of_beq h3)) (G.vis h2) z1 z2 h4
      · cases h
    · split at h
      · rename_i e
        subst e
        simp only [grd_some, Option.bind_eq_some_iff, Option.map_eq_some_iff, Bool.and_eq_true] at h
        obtain ⟨⟨⟨h1, h2⟩, h3⟩, m, hm, n, hn, rfl⟩ := h
        exact d_join G.K (S X F W C o m.1 m.2 G hm).1 (S X F W C a n.1 n.2 G hn).1 h2 (baseE_ok h1) h3
      · split at h
        · rename_i e
          subst e
          simp only [grd_some, Option.bind_eq_some_iff, Option.map_eq_some_iff, Bool.and_eq_true] at h
          obtain ⟨⟨⟨h1, h2⟩, h3⟩, m, hm, n, hn, rfl⟩ := h
          exact d_split (S X F W C o m.1 m.2 G hm).1 (S X F W C a n.1 n.2 G hn).1 h2 (baseE_ok h1) h3
        · cases h
  · cases h
theorem cCmp_ok (S : Snd r) (G : Gd X F W C) {a : Expr} {ops : List CmpOp} {bs : List Expr} {m : ME} (h : cCmp r C a ops bs = some m) : PE X (.Compare a ops bs pos) (tD F W m) ∧ PT X (.Compare a ops bs pos) (tT F W m) := by
  unfold cCmp at h
  split at h
  · rename_i o b
    split at h
    · rename_i y p1 p2
      split at h
      · rename_i hb
        simp only [grd_some, Option.bind_eq_some_iff, Bool.and_eq_true] at h hb
        obtain ⟨i, hi, ⟨h1, h2⟩, e⟩ := h
        cases e
        obtain ⟨z1, z2, z3⟩ := okName_1 h1
        have hs := eq_of_beq hb.2
        rw [hi] at hs
        exact ⟨d_bagne (G.slot hs) G.un (G.vis h2) z1 z2, dT_bagne (G.slot hs) G.un (G.vis h2) z1 z2⟩
      · simp only [Option.bind_eq_some_iff, Option.map_eq_some_iff] at h
        obtain ⟨m1, hm, n, hn, rfl⟩ := h
        have ha := (S X F W C _ m1.1 m1.2 G hm).1
        have hb := (S X F W C _ n.1 n.2 G hn).1
        exact ⟨d_cmp (o := .ne) G.K G.un ha hb rfl, dT_cmp (o := .ne) G.K G.un ha hb rfl⟩
    · simp only [grd_some, Option.bind_eq_some_iff, Option.map_eq_some_iff, Bool.not_eq_true'] at h
      obtain ⟨o', ho, hb, m1, hm, n, hn, rfl⟩ := h
      have ha := (S X F W C _ m1.1 m1.2 G hm).1
      have hbb := (S X F W C _ n.1 n.2 G hn).1
      have e := opC_cop ho
      subst e
      exact ⟨d_cmp G.K G.un ha hbb hb, dT_cmp G.K G.un ha hbb hb⟩
  · simp only [grd_some, Option.bind_eq_some_iff, Option.map_eq_some_iff, Bool.not_eq_true'] at h
    obtain ⟨q, hq, q', hq', hl, m1, hm, n, hn, k, hk, rfl⟩ := h
    have ha := (S X F W C _ m1.1 m1.2 G hm).1
    have hb := (S X F W C _ n.1 n.2 G hn).1
    have hc := (S X F W C _ k.1 k.2 G hk).1
    have e := opC_cop hq
    have e' := opC_cop hq'
    subst e e'
    exact ⟨d_chain G.K G.un ha hb hc hl, dT_chain G.K G.un ha hb hc hl⟩
  · cases h
theorem cBin_ok (S : Snd r) (G : Gd X F W C) {a b : Expr} {op : Operator} {m : ME} (h : cBin r C a op b = some m) : PE X (.BinOp a op b pos) (tD F W m) := by
  unfold cBin at h
  split at h
  · simp only [grd_some, Option.bind_eq_some_iff, Option.map_eq_some_iff, decide_eq_true_eq] at h
    obtain ⟨ms, hms, hl, n, hn, rfl⟩ := h
    exact d_new (d_lrepF (cEs_ok S G hms).1 (S X F W C _ n.1 n.2 G hn).1 hl)
  · simp only [Option.bind_eq_some_iff, Option.map_eq_some_iff] at h
    obtain ⟨o, ho, m1, hm, n, hn, rfl⟩ := h
    have e := opB_bop ho
    subst e
    exact d_bin G.K (S X F W C _ m1.1 m1.2 G hm).1 (S X F W C _ n.1 n.2 G hn).1
theorem cSub_ok (S : Snd r) (G : Gd X F W C) {a s : Expr} {m : ME} (h : cSub r C a s = some m) : PE X (.Subscript a s pos) (tD F W m) := by
  unfold cSub at h
  split at h
  · simp only [grd_some, Option.map_eq_some_iff] at h
    obtain ⟨hi, m1, hm, rfl⟩ := h
    have hi := eq_of_beq hi
    subst hi
    exact d_rev G.K (S X F W C _ m1.1 m1.2 G hm).1
  · simp only [grd_some, Option.map_eq_some_iff, Bool.and_eq_true] at h
    obtain ⟨⟨hi, hj⟩, m1, hm, rfl⟩ := h
    have hi := eq_of_beq hi
    have hj := eq_of_beq hj
    subst hi hj
    exact d_revt G.K (S X F W C _ m1.1 m1.2 G hm).1
  · simp only [Option.bind_eq_some_iff, Option.map_eq_some_iff] at h
    obtain ⟨m1, hm, l, hl, u, hu, rfl⟩ := h
    exact d_sl G.K (S X F W C _ m1.1 m1.2 G hm).1 (cO_ok S G hl) (cO_ok S G hu)
  · cases h
  · rename_i hn0 hnj hn1 hn2
    simp only [Option.bind_eq_some_iff, Option.map_eq_some_iff] at h
    obtain ⟨m1, hm, n, hn, rfl⟩ := h
    refine d_ix G.K (S X F W C _ m1.1 m1.2 G hm).1 (S X F W C _ n.1 n.2 G hn).1 ?_
    cases s <;> first | rfl | exact absurd rfl (hn2 _ _ _ _)
theorem cSset_ok (S : Snd r) (G : Gd X F W C) {x : Str} {args : List Expr} {m : ME} (h : cSset r C x args = some m) : PE X (.Call (.Name x p) args [] pos) (tD F W m) := by
  unfold cSset at h
  split at h
  · simp only [grd_some, Option.map_eq_some_iff, Bool.and_eq_true, decide_eq_true_eq] at h
    obtain ⟨⟨⟨⟨⟨⟨⟨rfl, rfl⟩, h1⟩, h2⟩, h3⟩, h4⟩, h5⟩, n, hn, rfl⟩ := h
    exact d_sset G.calm G.K (G.gl h1) (G.bl _ h3) (G.gl h2) (G.bl _ h4) (S X F W C _ n.1 n.2 G hn).1 h5
  · cases h
theorem cLrng_ok (S : Snd r) (G : Gd X F W C) {x : Str} {args : List Expr} {m : ME} (h : cLrng r C x args = some m) : PE X (.Call (.Name x p) args [] pos) (tD F W m) := by
  unfold cLrng at h
  split at h
  · simp only [grd_some, Option.map_eq_some_iff, Bool.and_eq_true, decide_eq_true_eq] at h
    obtain ⟨⟨⟨⟨⟨⟨⟨rfl, rfl⟩, h1⟩, h2⟩, h3⟩, h4⟩, h5⟩, n, hn, rfl⟩ := h
    exact d_lrng G.calm G.K (G.gl h1) (G.bl _ h3) (G.gl h2) (G.bl _ h4) (S X F W C _ n.1 n.2 G hn).1 h5
  · cases h
theorem cEs_pj (S : Snd r) (G : Gd X F W C) : ∀ {es : List Expr} {ms : MEs}, cEs r C es = some ms → PJ X es (tDs F W ms)
  | [], ms, h => by simp only [cEs, Option.some.injEq] at h; subst h; exact .nil
  | e :: es, ms, h => by
    simp only [cEs, grd_some, Option.bind_eq_some_iff, Option.map_eq_some_iff] at h
    obtain ⟨hp, m, hm, ms', hms, rfl⟩ := h
    exact .cons (S X F W C e m.1 m.2 G hm).1 (cEs_pj S G hms)
theorem cLam_ok (S : Snd r) (G : Gd X F W C) {x : Str} {args : List Expr} {m : ME} (h : cLam r C x args = some m) : PE X (.Call (.Name x p) args [] pos) (tD F W m) := by
  unfold cLam at h
  split at h
  · rename_i body scope lpos
    simp only [grd_some, Option.bind_eq_some_iff, Option.map_eq_some_iff] at h
    obtain ⟨lb, hl, hs, n, hn, rfl⟩ := h
    obtain ⟨k0, hR, hf, hb⟩ := G.lam x lb hl
    refine hR F.kp body scope lpos p pos n.1 W (LamX.lamS_by (by rw [G.sc]; exact hs)) fun A0 A outer s H E f c' hr => ?_
    have tk : L2N.Takes (lamN X A outer s H E scope f c') (fun cls d _ H => E cls d H) := L2N.takes_of rfl rfl rfl rfl
    refine (S (lamN X A outer s H E scope f c') { F with A0 := A0 } (fun c H' => E (.ref (F.cls c)) none H') (C.inL scope) body n.1 n.2 ⟨G.N, G.nd, rfl, fun h => (by cases h), rfl, G.K, G.O, ?_, ⟨_, tk, fun c σ H' h => h⟩, fun x i np new h => ?_, fun x i np new h => ?_, G.gc, G.bl, fun x lb h => by cases h⟩ hn).1
    · have := hr.un
      show (A.deeper (LamX.lamEnv X scope s.heap.objs.size f c')).units + 65 < cLine
      omega
    · obtain ⟨k, g, fd, ps, h1, h2, h3⟩ := hf x i np new h
      exact ⟨k, g, fd, ps, h1, hr.mono h2, h3⟩
    · obtain ⟨k, g, fd, ps, h1, h2, h3⟩ := hb x i np new h
      exact ⟨k, g, fd, ps, h1, hr.mono h2, h3⟩
  · cases h
theorem step_ok (S : Snd r) : Snd (stepE r) := by
  intro X F W C e m b G h
  unfold stepE at h
  split at h
  · obtain ⟨n, hn, e⟩ := Option.map_eq_some_iff.mp h
    cases e
    exact val_both (cName_ok G hn) rfl
  · obtain ⟨n, hn, e⟩ := Option.map_eq_some_iff.mp h
    cases e
    exact val_both (cConst_ok G hn) rfl
  · simp only [grd_some, Option.bind_eq_some_iff, decide_eq_true_eq] at h
    obtain ⟨ms, hms, hl, e⟩ := h
    cases e
    exact val_both (d_tup' (cEs_ok S G hms).1 hl) rfl
  · simp only [grd_some, Option.bind_eq_some_iff, decide_eq_true_eq] at h
    obtain ⟨ms, hms, hl, e⟩ := h
    cases e
    exact val_both (d_new (d_lstF (cEs_ok S G hms).1 hl)) rfl
  · obtain ⟨n, hn, e⟩ := Option.map_eq_some_iff.mp h
    cases e
    exact val_both (cBin_ok S G hn) rfl
  · obtain ⟨n, hn, e⟩ := Option.map_eq_some_iff.mp h
    cases e
    obtain ⟨h1, h2⟩ := S X F W C _ n.1 n.2 G hn
    exact ⟨d_nt h1, fun hb => dT_nt (h2 hb)⟩
  · obtain ⟨n, hn, e⟩ := Option.map_eq_some_iff.mp h
    cases e
    exact val_both (d_neg G.K (S X F W C _ n.1 n.2 G hn).1) rfl
  · obtain ⟨n, hn, e⟩ := Option.map_eq_some_iff.mp h
    cases e
    obtain ⟨h1, h2⟩ := cCmp_ok (pos := by assumption) S G hn
    exact ⟨h1, fun _ => h2⟩
  · obtain ⟨h1, h2⟩ := cB_ok S G (p := by assumption) h
    exact ⟨h1, fun hb => (h2 hb).pt⟩
  · simp only [grd_some, Option.bind_eq_some_iff, Option.map_eq_some_iff] at h
    obtain ⟨k, hk, hkb, m1, hm, n, hn, e⟩ := h
    cases e
    exact ⟨d_ite ((S X F W C _ k.1 k.2 G hk).2 hkb) (S X F W C _ m1.1 m1.2 G hm).1 (S X F W C _ n.1 n.2 G hn).1, fun hb => (by cases hb)⟩
  · obtain ⟨n, hn, e⟩ := Option.map_eq_some_iff.mp h
    cases e
    exact val_both (cSub_ok S G hn) rfl
  · obtain ⟨n, hn, e⟩ := Option.map_eq_some_iff.mp h
    cases e
    exact val_both (d_fmt (S X F W C _ n.1 n.2 G hn).1) rfl
  · obtain ⟨ms, hms, e⟩ := Option.map_eq_some_iff.mp h
    cases e
    exact val_both (d_js (cEs_pj S G hms)) rfl
  · split at h
    · rename_i n hn
      cases h
      exact val_both (cLrng_ok S G hn) rfl
    · split at h
      · rename_i n hn
        cases h
        exact val_both (cSset_ok S G hn) rfl
      · split at h
        · rename_i n hn
          cases h
          exact val_both (cLam_ok S G hn) rfl
        · obtain ⟨n, hn, e⟩ := Option.map_eq_some_iff.mp h
          cases e
          exact val_both (cCall_ok S G hn) rfl
  · obtain ⟨n, hn, e⟩ := Option.map_eq_some_iff.mp h
    cases e
    exact val_both (cAttr_ok S G hn) rfl
  · simp only [grd_some, Option.map_eq_some_iff] at h
    obtain ⟨hz, n, hn, e⟩ := h
    cases e
    have hz := eq_of_beq hz
    subst hz
    exact val_both (d_new (cComp_ok S G hn)) rfl
  · cases h
/-- the reader, so many levels deep -/
def cE : Nat → Rec
  | 0 => fun _ _ => none
  | n + 1 => stepE (cE n)
theorem cE_ok : ∀ n : Nat, Snd (cE n)
  | 0 => fun X F W C e m b G h => nomatch h
  | n + 1 => step_ok (cE_ok n)
end
end PD
set_option linter.all false
set_option maxRecDepth 100000
set_option maxHeartbeats 1000000
/-! From text to the evaluator's forms: statements. -/
namespace PD
open PySem PySem.Spec PyProof.Rows L2
/-! ### which stores are swapped -/
def isComp : Expr → Bool
  | .ListComp .. => true
  | .SetComp .. => true
  | .DictComp .. => true
  | _ => false
theorem sw_no {e : Expr} {t : Option Expr} {l : Nat} {env : Env} (h : isComp e = false) : swapsWith e t l env = pure false := by
  cases e <;> first | rfl | cases h
theorem sw_cell {elt : Expr} {gs : List Comprehension} {scope : Scope} {pos py : Pos} {y : Str} {l : Nat} {env : Env} (hy : env.scope.names.lookup y = some .cell) : swapsWith (.ListComp elt gs scope pos) (some (.Name y py)) l env = pure false := by
  have ky : env.kindOf y = some .cell := hy
  unfold swapsWith
  simp only [ky]
  show (pure (env.blockKind == .function && (some NameKind.cell == some .local) && _ && _) : Sem Bool) = _
  rw [show (some NameKind.cell == some NameKind.local) = false from rfl, Bool.and_false]
  rfl
theorem st_name {x : Str} {p : Pos} {e : Expr} {env : Env} : swappedStores [.Name x p] e env = pure none := rfl
theorem st_sub {o k : Expr} {p : Pos} {e : Expr} {env : Env} : swappedStores [.Subscript o k p] e env = pure none := rfl
theorem st_tup {ts : List Expr} {k : Nat} {p : Pos} {e : Expr} {env : Env} (h : isTup e = false) : swappedStores [.Tuple ts k p] e env = pure none := by
  cases e <;> first | rfl | cases h
theorem bk_fn {env : Env} (hk : env.scope.kind = .function) : env.blockKind = .function := by unfold Env.blockKind; rw [hk]; rfl
theorem plain_star (a : Expr) : (match a with | .Starred .. => true | _ => false) = !plainE a := by cases a <;> rfl
theorem st_two {x y : Str} {px py pt pt2 : Pos} {kt k2 : Nat} {a b : Expr} {env : Env} (hk : env.scope.kind = .function) (hx : env.scope.names.lookup x = some .local) (hy : env.scope.names.lookup y = some .local) (hl : (py.line == px.line) = true) (hxy : x ≠ y)
    (ha : plainE a = true) (hb : plainE b = true) (hf : [a, b].all (foldedForSure 8) = false) (hc : [a, b].all (constantsAlone 8) = false) : swappedStores [.Tuple [.Name x px, .Name y py] kt pt] (.Tuple [a, b] k2 pt2) env = pure (some [x, y]) := by
  have kx : env.kindOf x = some .local := hx
  have ky : env.kindOf y = some .local := hy
  have sa := plain_star a
  have sb := plain_star b
  rw [ha] at sa
  rw [hb] at sb
  have hl' : py.line = px.line := eq_of_beq hl
  have e1 : (Expr.Name x px).pos.line = px.line := rfl
  have hb' := bk_fn hk
  have hxy' : (y == x) = false := by simpa using fun e : y = x => hxy e.symm
  unfold swappedStores
  simp [hb', hf, hc, kx, ky, List.filterMap, List.eraseDups, List.eraseDupsBy, List.eraseDupsBy.loop, sa, sb, e1, hl', hxy']
  intro h
  exfalso
  clear sa sb hf hc
  rcases h with h | h
  · cases a <;> first | exact Bool.noConfusion h | exact Bool.noConfusion ha
  · cases b <;> first | exact Bool.noConfusion h | exact Bool.noConfusion hb
theorem st_three {x y z : Str} {px py pz pt pt2 : Pos} {kt k2 : Nat} {a b c : Expr} {env : Env} (hk : env.scope.kind = .function) (hx : env.scope.names.lookup x = some .local) (hy : env.scope.names.lookup y = some .local) (hz : env.scope.names.lookup z = some .local)
    (hl : (py.line == px.line) = true) (hl2 : (pz.line == px.line) = true) (hxy : x ≠ y) (hxz : x ≠ z) (hyz : y ≠ z)
    (ha : plainE a = true) (hb : plainE b = true) (hcc : plainE c = true) (hf : [a, b, c].all (foldedForSure 8) = false) (hc : [a, b, c].all (constantsAlone 8) = false) : swappedStores [.Tuple [.Name x px, .Name y py, .Name z pz] kt pt] (.Tuple [a, b, c] k2 pt2) env = pure (some [x, y, z]) := by
  have kx : env.kindOf x = some .local := hx
  have ky : env.kindOf y = some .local := hy
  have kz : env.kindOf z = some .local := hz
  have hl' : py.line = px.line := eq_of_beq hl
  have hl2' : pz.line = px.line := eq_of_beq hl2
  have e1 : (Expr.Name x px).pos.line = px.line := rfl
  have hb' := bk_fn hk
  have hxy' : (y == x) = false := by simpa using fun e : y = x => hxy e.symm
  have hxz' : (z == x) = false := by simpa using fun e : z = x => hxz e.symm
  have hyz' : (z == y) = false := by simpa using fun e : z = y => hyz e.symm
  unfold swappedStores
  simp [hb', hf, hc, kx, ky, kz, List.filterMap, List.eraseDups, List.eraseDupsBy, List.eraseDupsBy.loop, e1, hl', hl2', hxy', hxz', hyz']
  intro h
  exfalso
  clear hf hc
  rcases h with h | h | h
  · cases a <;> first | exact Bool.noConfusion h | exact Bool.noConfusion ha
  · cases b <;> first | exact Bool.noConfusion h | exact Bool.noConfusion hb
  · cases c <;> first | exact Bool.noConfusion h | exact Bool.noConfusion hcc
/-- a name of the pair is no plain local: the pair is made and taken apart -/
theorem st_mixed {x y : Str} {px py pt pt2 : Pos} {kt k2 : Nat} {a b : Expr} {env : Env} (hk : env.scope.kind = .function) (hx : env.scope.names.lookup x = some .cell ∨ env.scope.names.lookup y = some .cell) : swappedStores [.Tuple [.Name x px, .Name y py] kt pt] (.Tuple [a, b] k2 pt2) env = pure none := by
  have hb' := bk_fn hk
  have e1 : (Expr.Name x px).pos.line = px.line := rfl
  unfold swappedStores
  rcases hx with h | h
  · have kx : env.kindOf x = some .cell := h
    simp [hb', kx, List.filterMap, e1]
    intro _ _
    split <;> simp
  · have ky : env.kindOf y = some .cell := h
    simp [hb', ky, List.filterMap, e1]
    intro _ _
    split <;> simp
end PD
set_option linter.all false
set_option maxRecDepth 100000
set_option maxHeartbeats 1000000
/-! From text to the evaluator's forms: every statement. -/
namespace PD
open PySem PySem.Spec PyProof.Rows L2
structure GdS (X : Cx) (F : Fx) (W : Nat → Hp → Prop) (C : Ct) : Prop extends Gd X F W C where
  po : PassesOwn (model X.prog X.w) X.A X.env X.xe
  kind : X.env.scope.kind = .function
  ex : ∀ x n, C.excs.lookup x = some n → ∃ Ca bmB Bn newId initId, ExcBaseFacts Bn newId initId bmB ∧ PySem.W.excIn X.K Ca bmB newId = true ∧ X.mg x = some (.ref Ca) ∧ PySem.W.keepIn X.K (.ref Ca) = true ∧ Raises X (.ref Ca) ∧ F.cls n = Ca
  sb : C.sb = true → F.b0 = none
theorem GdS.keeps {X : Cx} {F : Fx} {W : Nat → Hp → Prop} {C : Ct} (G : GdS X F W C) (kp : List (D × V)) : GdS X (F.keeps kp) W C :=
  ⟨⟨G.N, G.nd, G.sc, G.top, G.calm, G.K, G.O, G.un, G.tk, G.fn, G.fb, G.gc, G.bl, G.lam⟩, G.po, G.kind, G.ex, G.sb⟩
def isLoc (C : Ct) (x : Str) : Bool := match C.sc.names.lookup x with
  | some .local => true
  | _ => false
def isCell (C : Ct) (x : Str) : Bool := match C.sc.names.lookup x with
  | some .cell => true
  | _ => false
theorem isLoc_ok {C : Ct} {x : Str} (h : isLoc C x = true) : C.sc.names.lookup x = some .local := by
  unfold isLoc at h
  split at h
  · assumption
  · cases h
theorem isCell_ok {C : Ct} {x : Str} (h : isCell C x = true) : C.sc.names.lookup x = some .cell := by
  unfold isCell at h
  split at h
  · assumption
  · cases h
theorem sws {t value : Expr} {l : Nat} {env : Env} (h : swapsWith value (some t) l env = pure false) : swapsWithSole [t] value l env = pure false := by
  unfold swapsWithSole
  exact h
section
variable (r : Rec)
/-- forms whose list is new, but comprehensions -/
def cNew (C : Ct) (e : Expr) : Option ME := match e with
  | .List es _ => (cEs r C es).bind fun ms => grd (decide (ms.len ≤ 1000)) (some (.lst ms))
  | .BinOp (.List es _) .Mult b _ => (cEs r C es).bind fun ms => grd (decide (ms.len ≤ 1000)) ((r C b).map fun n => .lrep ms n.1)
  | .BinOp a .Add b _ => (r C a).bind fun m => (r C b).map fun n => .bin .add m.1 n.1
  | .Call (.Name x _) args [] _ => (match C.fns.lookup x with
    | some (f, np, false, true) => (match args with
      | a :: es => grd (okName x && glB C.sc x) ((cEs r C (a :: es)).bind fun ms => grd (ms.len == np) (some (.call f ms)))
      | _ => none)
    | some _ => none
    | none => (match args with
      | [a] => grd (okName x && glB C.sc x && C.blts.contains x && plainE a && decide (x = "list")) ((r C a).map fun m => .blt .list m.1)
      | _ => none))
  | _ => none
/-- a comprehension that goes straight to its name -/
def swB (C : Ct) (x : Str) (py cpos : Pos) (scope : Scope) : Bool := isLoc C x && (py.line == cpos.line) && !(scope.names.any fun (n, k) => n == x && (k == .local || k == .cell))
def cAsg (C : Ct) (tg value : Expr) (spos : Pos) : Option MS := match tg with
  | .Name x py => (slotOf C.N x).bind fun i =>
    if C.O.contains i = true then
      (if (C.bag == some i) = true then (match value with
        | .Call (.Name f p) (a :: es) [] p' => grd C.sb (grd (locB C x) (match cNew r C (.Call (.Name f p) (a :: es) [] p') with
          | some (.call n ms) => some (.setbag i n ms)
          | _ => none))
        | _ => none)
      else (match value with
        | .ListComp elt [⟨tg', iter, ifs, z⟩] scope cpos => grd (z == 0 && swB C x py cpos scope) ((cComp r C elt tg' iter ifs scope).bind fun m => grd (ss C.O m) (some (.asgO i m)))
        | _ => grd (locB C x && !isComp value) ((cNew r C value).bind fun m => grd (ss C.O m) (some (.asgO i m)))))
    else (match value with
      | .ListComp elt [⟨tg', iter, ifs, z⟩] scope cpos => if swB C x py cpos scope = true then grd (z == 0) ((cComp r C elt tg' iter ifs scope).bind fun m => grd (sf C.O m) (some (.asg (.nm i) m)))
        else grd (isCell C x) ((cG 12 C tg).bind fun t => (r C value).bind fun m => grd (sf C.O m.1) (some (.asg t m.1)))
      | _ => grd (!isComp value) ((cG 12 C tg).bind fun t => (r C value).bind fun m => grd (sf C.O m.1) (some (.asg t m.1))))
  | .Tuple ts _ _ => (match value with
    | .Tuple vs _ _ => (match ts, vs with
      | [.Name x px, .Name y py], [a, b] => if (isLoc C x && isLoc C y) = true then
          (slotOf C.N x).bind fun i => (slotOf C.N y).bind fun j => (r C a).bind fun m => (r C b).bind fun n =>
            grd ((py.line == px.line) && decide (x ≠ y) && decide (i ≠ j) && plainE a && plainE b && !([a, b].all (foldedForSure 8)) && !([a, b].all (constantsAlone 8)) && sf C.O m.1 && sf C.O n.1 && !C.O.contains i && !C.O.contains j) (some (.par i j m.1 n.1))
        else grd (isCell C x || isCell C y) ((cG 12 C tg).bind fun t => (r C value).bind fun m => grd (sf C.O m.1) (some (.asg t m.1)))
      | [.Name x px, .Name y py, .Name z pz], [a, b, c] =>
          (slotOf C.N x).bind fun i => (slotOf C.N y).bind fun j => (slotOf C.N z).bind fun l => (r C a).bind fun m => (r C b).bind fun n => (r C c).bind fun k =>
            grd (isLoc C x && isLoc C y && isLoc C z && (py.line == px.line) && (pz.line == px.line) && decide (x ≠ y) && decide (x ≠ z) && decide (y ≠ z) && decide (i ≠ j) && decide (i ≠ l) && decide (j ≠ l) && plainE a && plainE b && plainE c &&
              !([a, b, c].all (foldedForSure 8)) && !([a, b, c].all (constantsAlone 8)) && sf C.O m.1 && sf C.O n.1 && sf C.O k.1 && !C.O.contains i && !C.O.contains j && !C.O.contains l) (some (.par3 i j l m.1 n.1 k.1))
      | _, _ => none)
    | _ => grd (!isComp value && !isTup value) ((cG 12 C tg).bind fun t => (r C value).bind fun m => grd (sf C.O m.1) (some (.asg t m.1))))
  | .Subscript (.Name x p) k p2 => (slotOf C.N x).bind fun i => grd (okName x && visB C.sc x && !isComp value && !isSlice k) ((r C value).bind fun m => (r C k).bind fun n => grd (sf C.O m.1) (some (.setL i n.1 m.1)))
  | _ => none
def cRet (C : Ct) (e : Expr) : Option MS := if C.new = true then (match e with
    | .Name x _ => (slotOf C.N x).bind fun i => grd (okName x && visB C.sc x) (some (.retO i))
    | .Call (.Name f _) (a :: es) [] _ => (match C.fns.lookup f with
      | some (n, np, false, true) => grd (okName f && glB C.sc f) ((cEs r C (a :: es)).bind fun ms => grd (ms.len == np) (some (.ret (.call n ms))))
      | _ => none)
    | _ => none)
  else (r C e).map fun m => .ret m.1
end
section
variable {X : Cx} {F : Fx} {W : Nat → Hp → Prop} {C : Ct} {r : Rec} {p pos : Pos}
theorem cNew_ok (S : Snd r) (G : Gd X F W C) {e : Expr} {m : ME} (h : cNew r C e = some m) : PE X e (tF F W m) := by
  unfold cNew at h
  split at h
  · simp only [grd_some, Option.bind_eq_some_iff, decide_eq_true_eq] at h
    obtain ⟨ms, hms, hl, e⟩ := h
    cases e
    exact d_lstF (cEs_ok S G hms).1 hl
  · simp only [grd_some, Option.bind_eq_some_iff, Option.map_eq_some_iff, decide_eq_true_eq] at h
    obtain ⟨ms, hms, hl, n, hn, rfl⟩ := h
    exact d_lrepF (cEs_ok S G hms).1 (S X F W C _ n.1 n.2 G hn).1 hl
  · simp only [Option.bind_eq_some_iff, Option.map_eq_some_iff] at h
    obtain ⟨m1, hm, n, hn, rfl⟩ := h
    exact d_addF G.K (S X F W C _ m1.1 m1.2 G hm).1 (S X F W C _ n.1 n.2 G hn).1
  · rename_i x p1 args p2
    split at h
    · rename_i f np hl
      split at h
      · rename_i a es
        simp only [grd_some, Option.bind_eq_some_iff, Bool.and_eq_true] at h
        obtain ⟨⟨hx, hg⟩, ms, hms, hn, e⟩ := h
        cases e
        obtain ⟨x1, x2, x3⟩ := okName_1 hx
        obtain ⟨h1, h2, h3⟩ := cEs_ok S G hms
        obtain ⟨k, g, fd, ps, q1, q2, q3, q4, q5⟩ := G.fn x f np true hl
        obtain ⟨hp, hps⟩ := Bool.and_eq_true_iff.mp (List.all_cons ▸ h2)
        exact d_callF q1 q2 (G.gl hg) q3 q4 q5 G.tk G.K (eq_of_beq hn) h1 x1 hp hps
      · cases h
    · cases h
    · split at h
      · rename_i a
        simp only [grd_some, Option.map_eq_some_iff, Bool.and_eq_true, decide_eq_true_eq] at h
        obtain ⟨⟨⟨⟨⟨hx, hg⟩, hb⟩, hp⟩, e⟩, m1, hm, rfl⟩ := h
        subst e
        obtain ⟨x1, x2, x3⟩ := okName_1 hx
        exact d_listF G.K (G.gl hg) (G.bl _ hb) (by decide +kernel) (S X F W C _ m1.1 m1.2 G hm).1 hp x3 x1
      · cases h
  · cases h
theorem swB_ok {x : Str} {py cpos spos : Pos} {scope : Scope} {elt tg iter : Expr} {ifs : List Expr} (G : GdS X F W C) (h : swB C x py cpos scope = true) : X.env.scope.names.lookup x = some .local ∧ swapsWith (.ListComp elt [⟨tg, iter, ifs, 0⟩] scope cpos) (some (.Name x py)) spos.line X.env = pure true := by
  simp only [swB, Bool.and_eq_true, Bool.not_eq_true'] at h
  have hl := isLoc_ok h.1.1
  rw [← G.sc] at hl
  exact ⟨hl, sw_true G.kind hl h.1.2 h.2⟩
theorem s_compP {i : Nat} {x : Str} {py spos cpos : Pos} {elt tg iter : Expr} {ifs : List Expr} {scope : Scope} {own : List (Str × Nat)} {me : ME} {t : Tgt} {mi : MI} {mc : MO} (G : GdS X F W C) (hi : X.N[i]? = some x) (h : swB C x py cpos scope = true) (k : CompOk X F W elt tg iter ifs scope own me t mi mc) :
    PS X (.Assign [.Name x py] (.ListComp elt [⟨tg, iter, ifs, 0⟩] scope cpos) spos) (tAsg (tF F W (.comp me t mi mc (own.map (·.2)))) (gName i)) := by
  obtain ⟨h1, h2⟩ := swB_ok (elt := elt) (tg := tg) (iter := iter) (ifs := ifs) (spos := spos) G h
  exact s_comp G.calm G.nd hi h1 h2 k.hi k.ok k.hO k.hidx k.hg k.ht k.he k.hs
/-- a plain store -/
theorem asg_plainT (S : Snd r) (G : GdS X F W C) {tg value : Expr} {t : Tgt} {m : ME × Bool} {spos : Pos} (ht : cG 12 C tg = some t) (hm : r C value = some m) (hs : sf C.O m.1 = true) (h1 : swapsWithSole [tg] value spos.line X.env = pure false) (h2 : swappedStores [tg] value X.env = pure none) :
    PS X (.Assign [tg] value spos) (tS F W C.new (.asg t m.1)) := by
  have hp : plainE tg = true := by
    cases tg <;> first | rfl | (simp only [cG] at ht; cases ht)
  exact s_asg (S X F W C _ m.1 m.2 G.toGd hm).1 (cG_ok G.toGd 12 ht) (by rw [G.O]; exact hs) h1 h2 (by rw [asg_plain hp]; rfl)
theorem nO {i : Nat} (G : Gd X F W C) (h : (!C.O.contains i) = true) : i ∉ F.O := by rw [G.O]; simpa using h
theorem yO {i : Nat} (G : Gd X F W C) (h : C.O.contains i = true) : i ∈ F.O := by rw [G.O]; simpa using h
theorem cAsg_ok (S : Snd r) (G : GdS X F W C) {tg value : Expr} {spos : Pos} {m : MS} (h : cAsg r C tg value spos = some m) : PS X (.Assign [tg] value spos) (tS F W C.new m) := by
  unfold cAsg at h
  split at h
  · rename_i x py
    simp only [Option.bind_eq_some_iff] at h
    obtain ⟨i, hi, h⟩ := h
    have hN := G.slot hi
    split at h
    · rename_i hO
      split at h
      · split at h
        · rename_i f p1 a es p2
          simp only [grd_some] at h
          obtain ⟨hsb, hlo, h⟩ := h
          split at h
          · rename_i n ms hn
            cases h
            obtain ⟨l1, l2⟩ := locB_ok G.toGd hlo
            exact s_setbag (ps_set G.nd hN l1 (cNew_ok S G.toGd hn) rfl l2) (fun _ _ _ q => q) (yO G.toGd hO) (G.sb hsb)
          · cases h
        · cases h
      · split at h
        · rename_i elt tg' iter ifs z scope cpos
          simp only [grd_some, Option.bind_eq_some_iff, Bool.and_eq_true] at h
          obtain ⟨⟨hz, hsw⟩, m1, hm, hs, e⟩ := h
          cases e
          have hz := eq_of_beq hz
          subst hz
          obtain ⟨me, t, mi, mc, rfl, k⟩ := cComp_parts S G.toGd hm
          exact s_asgO (s_compP G hN hsw k) (fun _ _ _ q => q) (yO G.toGd hO) (by rw [G.O]; exact hs)
        · simp only [grd_some, Option.bind_eq_some_iff, Bool.and_eq_true, Bool.not_eq_true'] at h
          obtain ⟨⟨hlo, hc⟩, m1, hm, hs, e⟩ := h
          cases e
          obtain ⟨l1, l2⟩ := locB_ok G.toGd hlo
          exact s_asgO (ps_set G.nd hN l1 (cNew_ok S G.toGd hm) (sw_no hc) l2) (fun _ _ _ q => q) (yO G.toGd hO) (by rw [G.O]; exact hs)
    · rename_i hO
      have hO' : i ∉ F.O := by rw [G.O]; simpa using hO
      split at h
      · rename_i elt tg' iter ifs z scope cpos
        split at h
        · rename_i hsw
          simp only [grd_some, Option.bind_eq_some_iff] at h
          obtain ⟨hz, m1, hm, hs, e⟩ := h
          cases e
          have hz := eq_of_beq hz
          subst hz
          obtain ⟨me, t, mi, mc, rfl, k⟩ := cComp_parts S G.toGd hm
          exact s_asgC (s_compP G hN hsw k) (fun _ _ _ q => q) hO' (by rw [G.O]; exact hs)
        · simp only [grd_some, Option.bind_eq_some_iff] at h
          obtain ⟨hcell, t, ht, m1, hm, hs, e⟩ := h
          cases e
          have hcl := isCell_ok hcell
          rw [← G.sc] at hcl
          exact asg_plainT S G ht hm hs (sws (sw_cell hcl)) st_name
      · simp only [grd_some, Option.bind_eq_some_iff, Bool.not_eq_true'] at h
        obtain ⟨hc, t, ht, m1, hm, hs, e⟩ := h
        cases e
        exact asg_plainT S G ht hm hs (sws (sw_no hc)) st_name
  · rename_i ts k0 p0
    split at h
    · rename_i vs k1 p1
      split at h
      · rename_i x px y py a b
        split at h
        · rename_i hl
          simp only [grd_some, Option.bind_eq_some_iff, Bool.and_eq_true, Bool.not_eq_true', decide_eq_true_eq] at h hl
          obtain ⟨i, hi, j, hj, m1, hm, n, hn, ⟨⟨⟨⟨⟨⟨⟨⟨⟨⟨c1, c2⟩, c3⟩, c4⟩, c5⟩, c6⟩, c7⟩, c8⟩, c9⟩, c10⟩, c11⟩, e⟩ := h
          cases e
          have lx := isLoc_ok hl.1
          have ly := isLoc_ok hl.2
          rw [← G.sc] at lx ly
          exact s_par G.calm G.nd (G.slot hi) (G.slot hj) c3 lx ly (S X F W C _ m1.1 m1.2 G.toGd hm).1 (S X F W C _ n.1 n.2 G.toGd hn).1 c4 c5 (by rw [G.O]; exact c8) (by rw [G.O]; exact c9) (by rw [G.O]; simpa using c10) (by rw [G.O]; simpa using c11)
            (st_two G.kind lx ly c1 c2 c4 c5 c6 c7) rfl
        · simp only [grd_some, Option.bind_eq_some_iff, Bool.or_eq_true] at h
          obtain ⟨hcl, t, ht, m1, hm, hs, e⟩ := h
          cases e
          refine asg_plainT S G ht hm hs rfl (st_mixed G.kind (hcl.imp (fun q => ?_) fun q => ?_)) <;> (rw [G.sc]; exact isCell_ok q)
      · rename_i x px y py z pz a b c
        simp only [grd_some, Option.bind_eq_some_iff, Bool.and_eq_true, Bool.not_eq_true', decide_eq_true_eq] at h
        obtain ⟨i, hi, j, hj, l, hl, m1, hm, n, hn, k, hk, ⟨⟨⟨⟨⟨⟨⟨⟨⟨⟨⟨⟨⟨⟨⟨⟨⟨⟨⟨⟨⟨d1, d2⟩, d3⟩, c1⟩, c2⟩, c3⟩, c4⟩, c5⟩, c6⟩, c7⟩, c8⟩, b1⟩, b2⟩, b3⟩, c9⟩, c10⟩, s1⟩, s2⟩, s3⟩, o1⟩, o2⟩, o3⟩, e⟩ := h
        cases e
        have lx := isLoc_ok d1
        have ly := isLoc_ok d2
        have lz := isLoc_ok d3
        rw [← G.sc] at lx ly lz
        exact s_par3 G.calm G.nd (G.slot hi) (G.slot hj) (G.slot hl) c6 c7 c8 lx ly lz (S X F W C _ m1.1 m1.2 G.toGd hm).1 (S X F W C _ n.1 n.2 G.toGd hn).1 (S X F W C _ k.1 k.2 G.toGd hk).1 b1 b2 b3
          (by rw [G.O]; exact s1) (by rw [G.O]; exact s2) (by rw [G.O]; exact s3) (by rw [G.O]; simpa using o1) (by rw [G.O]; simpa using o2) (by rw [G.O]; simpa using o3) (st_three G.kind lx ly lz c1 c2 c3 c4 c5 b1 b2 b3 c9 c10) rfl
      · cases h
    · simp only [grd_some, Option.bind_eq_some_iff, Bool.and_eq_true, Bool.not_eq_true'] at h
      obtain ⟨⟨hc, htp⟩, t, ht, m1, hm, hs, e⟩ := h
      cases e
      exact asg_plainT S G ht hm hs (sws (sw_no hc)) (st_tup htp)
  · rename_i x p0 k p2
    simp only [grd_some, Option.bind_eq_some_iff, Bool.and_eq_true, Bool.not_eq_true'] at h
    obtain ⟨i, hi, ⟨⟨⟨hx, hv⟩, hc⟩, hsl⟩, m1, hm, n, hn, hs, e⟩ := h
    cases e
    obtain ⟨x1, x2, x3⟩ := okName_1 hx
    refine s_setL (G.slot hi) (G.vis hv) x1 x2 (S X F W C _ m1.1 m1.2 G.toGd hm).1 (S X F W C _ n.1 n.2 G.toGd hn).1 (by rw [G.O]; exact hs) (fun v => ?_) (sws (sw_no hc)) st_sub rfl
    cases k <;> first | rfl | cases hsl
  · cases h
theorem cRet_ok (S : Snd r) (G : GdS X F W C) {e : Expr} {m : MS} (h : cRet r C e = some m) : PS X (.Return (some e) pos) (tS F W C.new m) := by
  unfold cRet at h
  split at h
  · split at h
    · rename_i x p1
      simp only [grd_some, Option.bind_eq_some_iff, Bool.and_eq_true] at h
      obtain ⟨i, hi, ⟨hx, hv⟩, e⟩ := h
      cases e
      obtain ⟨x1, x2, x3⟩ := okName_1 hx
      exact s_retO (G.slot hi) (G.vis hv) x1 x2
    · rename_i x p1 a es p2
      split at h
      · rename_i f np hl
        simp only [grd_some, Option.bind_eq_some_iff, Bool.and_eq_true] at h
        obtain ⟨⟨hx, hg⟩, ms, hms, hn, e⟩ := h
        cases e
        obtain ⟨x1, x2, x3⟩ := okName_1 hx
        obtain ⟨h1, h2, h3⟩ := cEs_ok S G.toGd hms
        obtain ⟨k, g, fd, ps, q1, q2, q3, q4, q5⟩ := G.fn x f np true hl
        obtain ⟨hp, hps⟩ := Bool.and_eq_true_iff.mp (List.all_cons ▸ h2)
        exact s_retF (d_callF q1 q2 (G.gl hg) q3 q4 q5 G.tk G.K (eq_of_beq hn) h1 x1 hp hps)
      · cases h
    · cases h
  · rename_i hn
    obtain ⟨n, hm, rfl⟩ := Option.map_eq_some_iff.mp h
    have hn : C.new = false := by simpa using hn
    rw [hn]
    exact s_ret (S X F W C _ n.1 n.2 G.toGd hm).1
end
end PD
set_option linter.all false
set_option maxRecDepth 100000
set_option maxHeartbeats 1000000
/-! From text to the evaluator's forms: bodies, defs. -/
namespace PD
open PySem PySem.Spec PyProof.Rows L2
abbrev RecS := Ct → List Stmt → Option MSs
def SndS (r : RecS) : Prop := ∀ (X : Cx) (F : Fx) (W : Nat → Hp → Prop) (C : Ct) (st : List Stmt) (m : MSs), GdS X F W C → r C st = some m → PSs X st (tSs F W C.new m)
def stepS (r : Rec) (q : RecS) (C : Ct) (st : Stmt) : Option MS := match st with
  | .Assign [tg] value pos => cAsg r C tg value pos
  | .Return (some e) _ => cRet r C e
  | .If c a b _ => (r C c).bind fun m => grd m.2 ((q C a).bind fun x => (q C b).map fun y => .ife m.1 x y)
  | .While c b [] _ => (r C c).bind fun m => grd m.2 ((q C b).map fun x => .whil m.1 x)
  | .For tg it b [] _ => grd (noSet it) ((cI r C tg it).bind fun mi => grd (sfI C.O mi) ((cG 12 C tg).bind fun t => (q C b).map fun x => .forr t mi x))
  | .Raise (some (.Call (.Name x _) [.Constant (.str _) _ _] [] _)) none _ => grd (okName x && glB C.sc x) ((C.excs.lookup x).map fun k => .raise k)
  | .Expr (.Call (.Attribute (.Name x _) nm p2) [a] [] p3) _ => grd (decide (nm = "append") && okName x && visB C.sc x && plainE a && (p2.endLine == p3.line)) ((slotOf C.N x).bind fun i => (r C a).bind fun m => grd (sf C.O m.1) (some (.app i m.1)))
  | .Expr e _ => grd (!isComp e) ((r C e).map fun m => .expr m.1)
  | _ => none
def stepSs (q : Ct → Stmt → Option MS) (C : Ct) : List Stmt → Option MSs
  | [] => some .nil
  | st :: r => (q C st).bind fun s => (stepSs q C r).map fun x => .cons s x
def cSs : Nat → RecS
  | 0 => fun _ _ => none
  | n + 1 => stepSs (stepS (cE n) (cSs n))
theorem stepS_ok {r : Rec} {q : RecS} (S : Snd r) (T : SndS q) {X : Cx} {F : Fx} {W : Nat → Hp → Prop} {C : Ct} {st : Stmt} {m : MS} (G : GdS X F W C) (h : stepS r q C st = some m) : PS X st (tS F W C.new m) := by
  unfold stepS at h
  split at h
  · exact cAsg_ok S G h
  · exact cRet_ok S G h
  · simp only [grd_some, Option.bind_eq_some_iff, Option.map_eq_some_iff] at h
    obtain ⟨k, hk, hb, x, hx, y, hy, rfl⟩ := h
    exact s_if ((S X F W C _ k.1 k.2 G.toGd hk).2 hb) (T X F W C _ _ G hx) (T X F W C _ _ G hy)
  · simp only [grd_some, Option.bind_eq_some_iff, Option.map_eq_some_iff] at h
    obtain ⟨k, hk, hb, x, hx, rfl⟩ := h
    exact s_while G.po ((S X F W C _ k.1 k.2 G.toGd hk).2 hb) (T X F W C _ _ G hx)
  · simp only [grd_some, Option.bind_eq_some_iff, Option.map_eq_some_iff] at h
    obtain ⟨hs, mi, hmi, hsf, t, ht, x, hx, rfl⟩ := h
    exact s_for G.po G.calm (cI_ok S G.toGd hmi) (by rw [G.O]; exact hsf) (fun kp => cG_ok (G.keeps kp).toGd 12 ht) (fun kp => T X _ W C _ _ (G.keeps kp) hx) (noSet_ok hs)
  · simp only [grd_some, Option.map_eq_some_iff, Bool.and_eq_true] at h
    obtain ⟨⟨hx, hg⟩, k, hk, rfl⟩ := h
    obtain ⟨x1, x2, x3⟩ := okName_1 hx
    obtain ⟨Ca, bmB, Bn, nI, iI, q1, q2, q3, q4, q5, q6⟩ := G.ex _ k hk
    exact s_raise G.calm G.tk q1 q2 q3 q4 q5 (G.gl hg) x1 q6
  · simp only [grd_some, Option.bind_eq_some_iff, Bool.and_eq_true, decide_eq_true_eq] at h
    obtain ⟨⟨⟨⟨⟨rfl, hx⟩, hv⟩, hp⟩, hl⟩, i, hi, k, hk, hs, e⟩ := h
    cases e
    obtain ⟨x1, x2, x3⟩ := okName_1 hx
    exact s_app (G.slot hi) (G.vis hv) x1 x2 (S X F W C _ k.1 k.2 G.toGd hk).1 hp (by rw [G.O]; exact hs) hl
  · simp only [grd_some, Option.map_eq_some_iff, Bool.not_eq_true'] at h
    obtain ⟨hc, k, hk, rfl⟩ := h
    exact s_expr (S X F W C _ k.1 k.2 G.toGd hk).1 (sw_no hc)
  · cases h
theorem stepSs_ok {r : Rec} {q : RecS} (S : Snd r) (T : SndS q) : SndS (stepSs (stepS r q)) := by
  intro X F W C st
  induction st with
  | nil => intro m G h; simp only [stepSs, Option.some.injEq] at h; subst h; exact s_nil
  | cons s rest ih =>
    intro m G h
    simp only [stepSs, Option.bind_eq_some_iff, Option.map_eq_some_iff] at h
    obtain ⟨a, ha, x, hx, rfl⟩ := h
    exact s_cons (stepS_ok S T G ha) (ih x G hx)
theorem cSs_ok : ∀ n : Nat, SndS (cSs n)
  | 0 => fun X F W C e m G h => nomatch h
  | n + 1 => stepSs_ok (cE_ok n) (cSs_ok n)
end PD
set_option linter.all false
set_option maxRecDepth 100000
set_option maxHeartbeats 1000000
/-! Defs keep their promises. -/
namespace PD
open PySem PySem.Spec PyProof.Rows L2
/-- what stands fast while a law runs -/
structure Wd where
  P : Program
  w : World
  K : PySem.W.Frag
  mg : Str → Option Value
  base : Heap
  T : List (Addr × Str)
  cls : Nat → Addr
  Pg : Prog
abbrev Fns := List (Str × Nat × Nat × Bool × Bool)
/-- a def known by its name, at a depth -/
def Wd.has (U : Wd) (n : Nat) (x : Str) (f np : Nat) (new : Bool) : Prop := ∃ g fd ps, FnOk U.P U.w U.K U.mg U.base (L2N.CX U.P U.w) (3 * n) g fd ps (spP U.T U.cls (callP U.Pg n) new U.K f np) ∧ U.mg x = some (.ref g) ∧ PySem.W.keepIn U.K (.ref g) = true ∧ Binds U.K fd ps []
def Wd.hasB (U : Wd) (n : Nat) (x : Str) (f np : Nat) : Prop := ∃ g fd ps, FnOk U.P U.w U.K U.mg U.base (L2N.CX U.P U.w) (3 * n) g fd ps (spB U.T U.cls (callB U.Pg n) U.K f np) ∧ U.mg x = some (.ref g) ∧ PySem.W.keepIn U.K (.ref g) = true ∧ Binds U.K fd ps []
structure Wd.knows (U : Wd) (n : Nat) (fns : Fns) : Prop where
  p : ∀ x f np new, fns.lookup x = some (f, np, false, new) → U.has n x f np new
  b : ∀ x f np new, fns.lookup x = some (f, np, true, new) → U.hasB n x f np
/-- constants, exceptions, built-ins -/
structure Wd.facts (U : Wd) (gcs excs : List (Str × Nat)) (blts : List Str) : Prop where
  gc : ∀ x n, gcs.lookup x = some n → ∃ v u, U.mg x = some u ∧ RelV v u ∧ ∀ H A, Dv U.K H A (U.Pg.gc n) v
  bl : ∀ x, blts.contains x = true → U.mg x = none
  ex : ∀ x n, excs.lookup x = some n → ∃ Ca bmB Bn newId initId, ExcBaseFacts Bn newId initId bmB ∧ PySem.W.excIn U.K Ca bmB newId = true ∧ U.mg x = some (.ref Ca) ∧ PySem.W.keepIn U.K (.ref Ca) = true ∧
    (PySem.W.subIn U.K (.ref Ca) (.type "BaseException") = some true ∧ PySem.W.typeIn U.K (.ref Ca) = some (.type "type")) ∧ U.cls n = Ca
def Wd.fx (U : Wd) (n : Nat) (H : Hp) (b0 : Option Addr) (A0 : Addr → Prop) (O : List Nat) : Fx := ⟨U.K, U.T, H, b0, A0, O, tab U.Pg n, U.cls, []⟩
section
variable {U : Wd} {n : Nat}
theorem gdS {C : Ct} {qual : Str} {scope : Scope} {f : Addr} {cdv : Value} {A : Around} {outer : List Env} {s : Shared} {H : Hp} {E : XK} {b0 : Option Addr} {A0 : Addr → Prop} (kn : U.knows n C.fns) (fc : U.facts C.gcs C.excs C.blts) (hnd : C.N.Nodup) (hsc : C.sc = scope) (hk : scope.kind = .function) (hsb : C.sb = true → b0 = none)
    (hr : Room (3 * n) (A.deeper (envOfC qual scope s.heap.objs.size f cdv)))
    (lm : ∀ x lb, C.lams.lookup x = some lb → ∀ kp, LamRule (cxOf (L2N.CX U.P U.w) U.P U.w U.K U.mg U.base C.N qual scope f cdv A outer s H E) { U.fx n H b0 A0 C.O with kp := kp } x lb (3 * n)) : GdS (cxOf (L2N.CX U.P U.w) U.P U.w U.K U.mg U.base C.N qual scope f cdv A outer s H E) (U.fx n H b0 A0 C.O) (fun c H' => E (.ref (U.cls c)) none H') C := by
  have tk : L2N.Takes (cxOf (L2N.CX U.P U.w) U.P U.w U.K U.mg U.base C.N qual scope f cdv A outer s H E) (fun cls d _ H => E cls d H) := L2N.takes_of rfl rfl rfl rfl
  refine ⟨⟨rfl, hnd, hsc.symm, fun _ _ => rfl, rfl, rfl, rfl, ?_, ⟨_, tk, fun c σ H' h => h⟩, fun x i np new h => ?_, fun x i np new h => ?_, fc.gc, fc.bl, fun x lb h => ⟨3 * n, lm x lb h, fun x i np new h => ?_, fun x i np new h => ?_⟩⟩, passes_of rfl, hk, fun x i h => ?_, hsb⟩
  · have := hr.un
    show (A.deeper (envOfC qual scope s.heap.objs.size f cdv)).units + 65 < cLine
    omega
  · obtain ⟨g, fd, ps, h1, h2, h3, h4⟩ := kn.p x i np new h
    exact ⟨3 * n, g, fd, ps, h1, hr, h2, h3, h4⟩
  · obtain ⟨g, fd, ps, h1, h2, h3, h4⟩ := kn.b x i np new h
    exact ⟨3 * n, g, fd, ps, h1, hr, h2, h3, h4⟩
  · obtain ⟨g, fd, ps, h1, h2, h3, h4⟩ := kn.p x i np new h
    exact ⟨3 * n, g, fd, ps, h1, Nat.le_refl _, h2, h3, h4⟩
  · obtain ⟨g, fd, ps, h1, h2, h3, h4⟩ := kn.b x i np new h
    exact ⟨3 * n, g, fd, ps, h1, Nat.le_refl _, h2, h3, h4⟩
  · obtain ⟨Ca, bmB, Bn, nI, iI, h1, h2, h3, h4, h5, h6⟩ := fc.ex x i h
    exact ⟨Ca, bmB, Bn, nI, iI, h1, h2, h3, h4, raises_own h5.1 h5.2, h6⟩
theorem start_val {ds : List D} {k i : Nat} {d : D} (h : (ds.map Sl.val ++ List.replicate k Sl.emp)[i]? = some (.val d)) : ds[i]? = some d := by
  by_cases hi : i < ds.length
  · rw [List.getElem?_append_left (by simpa using hi), List.getElem?_map] at h
    cases q : ds[i]? with
    | none => rw [q] at h; cases h
    | some x => rw [q] at h; cases h; rfl
  · rw [List.getElem?_append_right (by simpa using hi), List.getElem?_replicate] at h
    split at h <;> cases h
theorem start_only {ds : List D} {k i : Nat} {s : Sl} (h : (ds.map Sl.val ++ List.replicate k Sl.emp)[i]? = some s) : s = .emp ∨ ∃ d, s = .val d := by
  have m := List.mem_of_getElem? h
  rcases List.mem_append.mp m with m | m
  · obtain ⟨d, _, rfl⟩ := List.mem_map.mp m
    exact .inr ⟨d, rfl⟩
  · exact .inl (List.eq_of_mem_replicate m)
theorem start_slot {N : List Str} {vs : List V} {i : Nat} {v : V} (h : vs[i]? = some v) : (L2.start N vs)[i]? = some (some v) := by
  unfold L2.start
  have hi := (List.getElem?_eq_some_iff.mp h).1
  rw [List.getElem?_append_left (by simpa using hi), List.getElem?_map, h]
  rfl
theorem start_len {N : List Str} {vs : List V} : (L2.start N vs).length = vs.length + (N.length - vs.length) := by
  unfold L2.start
  simp
/-- where a def begins -/
theorem si_start {F : Fx} {N : List Str} {ds : List D} {vs : List V} (hb : F.b0 = none) (hk : F.kp = []) (ht : LamX.Tabs F.T F.H0) (hd : Dom F.A0 F.H0) (hv : DvAll F.K F.H0 F.A0 ds vs) : SI F (L2.start N vs) F.H0 (ds.map .val ++ List.replicate (N.length - ds.length) .emp) [] := by
  have no : ∀ {i : Nat} {s : Sl}, (ds.map Sl.val ++ List.replicate (N.length - ds.length) Sl.emp)[i]? = some s → s = .emp ∨ ∃ d, s = .val d := fun h => start_only h
  have nown : ∀ i : Nat, ¬ Own (ds.map Sl.val ++ List.replicate (N.length - ds.length) Sl.emp) i := fun i h => by
    rcases h with h | ⟨_, h⟩
    · rcases no h with z | ⟨_, z⟩ <;> cases z
    · rcases no h with z | ⟨_, z⟩ <;> cases z
  refine ⟨?_, .refl, ht, hd, fun i d h => ?_, fun i es h => absurd (.inr ⟨es, h⟩) (nown i), fun i h => absurd (.inl h) (nown i), fun i j a h => absurd h (nown i), fun i j h => absurd (.inl h) (nown i), fun b h => ?_, fun p hp => ?_⟩
  · rw [start_len, hv.length]; simp
  · obtain ⟨v, h1, h2⟩ := hv.get (start_val h)
    exact ⟨v, start_slot h1, h2.less fun a q => q.elim id fun ⟨j, q, _⟩ => absurd q (nown j)⟩
  · rw [hb] at h; cases h
  · rw [hk] at hp; cases hp
/-- the body of a def without the bag -/
theorem def_body {C : Ct} {qual : Str} {body : List Stmt} {scope : Scope} {f : Addr} {ps : List Str} {id : Nat} {g : Fn} {fuel : Nat} (kn : U.knows n C.fns) (fc : U.facts C.gcs C.excs C.blts) (S : FnScope C.N ps scope)
    (hsc : C.sc = scope) (hc : cSs fuel C body = some g.body) (hnat : U.Pg.nat id = none) (hfn : U.Pg.fn id = some g) (hnp : g.np = ps.length) (hnl : g.nl = C.N.length) (hbag : g.bag = false) {cdv : Value} {A : Around} {outer : List Env} {s : Shared} {H : Hp} {vs : List V} {Q : VK} {E : XK}
    (hr : Room (3 * n) (A.deeper (envOfC qual scope s.heap.objs.size f cdv)))
    (lm : ∀ x lb, C.lams.lookup x = some lb → ∀ A0 kp, LamRule (cxOf (L2N.CX U.P U.w) U.P U.w U.K U.mg U.base C.N qual scope f cdv A outer s H E) { U.fx n H none A0 C.O with kp := kp } x lb (3 * n)) (h : spP U.T U.cls (callP U.Pg (n + 1)) C.new U.K id ps.length vs H Q E) :
    ∃ t, PSs (cxOf (L2N.CX U.P U.w) U.P U.w U.K U.mg U.base C.N qual scope f cdv A outer s H E) body t ∧ t { nx := fun _ H' => Q .non H', rt := Q } (L2.start C.N vs) H := by
  obtain ⟨hl, A0, ds, dA, hT, hv, h⟩ := h
  have G := gdS (U := U) (n := n) (C := C) (qual := qual) (scope := scope) (f := f) (cdv := cdv) (A := A) (outer := outer) (s := s) (H := H) (E := E) (b0 := none) (A0 := A0) kn fc S.nd hsc S.kind (fun _ => rfl) hr fun x lb h => lm x lb h A0
  refine ⟨_, cSs_ok fuel _ _ _ C body g.body G hc, _, [], si_start (F := U.fx n H none A0 C.O) (N := C.N) (ds := ds) rfl rfl hT dA hv, ?_⟩
  have hdl : ds.length = g.np := by rw [hnp, ← hl, hv.length]
  have hst : startE g ds = ds.map .val ++ List.replicate (C.N.length - ds.length) .emp := by
    unfold startE
    rw [hbag, hnl, hdl]
    rfl
  have hcall : callP U.Pg (n + 1) id ds = (match endD (evSs (tab U.Pg n) g.body (startE g ds) []) with
      | .ok (d, _) => .ok d
      | .err c => .err c
      | .stuck => .stuck) := by
    simp only [callP, hnat, hfn, hbag, hdl]
    rfl
  rw [hcall, hst] at h
  show Wish (U.fx n H none A0 C.O) _ C.new (evSs (tab U.Pg n) g.body _ []) _
  cases q : evSs (tab U.Pg n) g.body (ds.map .val ++ List.replicate (C.N.length - ds.length) .emp) [] with
  | stuck => rw [q] at h; exact h
  | err c =>
    rw [q] at h
    exact fun H' x => h H' (x.mono fun _ z => by cases z)
  | ok pr =>
    obtain ⟨y, B'⟩ := pr
    rw [q] at h
    cases y with
    | nx e' => exact fun σ' H' I' => h .non H' (I'.ext.mono fun _ z => by cases z) .ofN fun _ ⟨ds, z⟩ => (by cases z)
    | rt d => exact fun v H' r => h v H' (r.ext.mono fun _ z => by cases z) r.dv r.new
/-- a def without the bag -/
theorem def_ok {C : Ct} {x qual : Str} {params : Arguments} {body : List Stmt} {scope : Scope} {f : Addr} {fd : FuncData} {ps : List Str} {id : Nat} {g : Fn} {fuel : Nat} (kn : U.knows n C.fns) (fc : U.facts C.gcs C.excs C.blts) (Fd : FunD U.K x qual params body scope [] [] f fd) (S : FnScope C.N ps scope)
    (hsc : C.sc = scope) (hc : cSs fuel C body = some g.body) (hnat : U.Pg.nat id = none) (hfn : U.Pg.fn id = some g) (hnp : g.np = ps.length) (hnl : g.nl = C.N.length) (hbag : g.bag = false) (hlm : C.lams = []) :
    FnOk U.P U.w U.K U.mg U.base (L2N.CX U.P U.w) (3 * (n + 1)) f fd ps (spP U.T U.cls (callP U.Pg (n + 1)) C.new U.K id ps.length) :=
  Fd.ok (k := 3 * n + 2) S (fun vs H Q E h => h.1) fun cdv A outer s H vs Q E hr h => def_body kn fc S hsc hc hnat hfn hnp hnl hbag (hr.mono (by omega)) (fun x lb hx => by rw [hlm] at hx; cases hx) h
theorem si_startB {F : Fx} {N : List Str} {ds : List D} {us : List V} {b : Addr} {B : Bg} (hb : F.b0 = some b) (hO : 0 ∈ F.O) (hk : F.kp = []) (ht : LamX.Tabs F.T F.H0) (hd : Dom F.A0 F.H0) (hA : F.A0 b) (hB : F.H0 b = some (.lst (B.map V.int))) (hv : DvAll F.K F.H0 F.A0 ds us) :
    SI F (L2.start N (.ref b :: us)) F.H0 (.bag :: (ds.map .val ++ List.replicate (N.length - (ds.length + 1)) .emp)) B := by
  have no : ∀ {i : Nat} {s : Sl}, (ds.map Sl.val ++ List.replicate (N.length - (ds.length + 1)) Sl.emp)[i]? = some s → s = .emp ∨ ∃ d, s = .val d := fun h => start_only h
  have nown : ∀ i : Nat, Own (.bag :: (ds.map Sl.val ++ List.replicate (N.length - (ds.length + 1)) Sl.emp)) i → i = 0 := fun i h => by
    cases i with
    | zero => rfl
    | succ i =>
      unfold Own at h
      rcases h with h | ⟨_, h⟩
      · rcases no (by simpa using h) with z | ⟨_, z⟩ <;> cases z
      · rcases no (by simpa using h) with z | ⟨_, z⟩ <;> cases z
  have s0 : (L2.start N (.ref b :: us))[0]? = some (some (.ref b)) := start_slot rfl
  refine ⟨?_, .refl, ht, hd, fun i d h => ?_, fun i es h => ?_, fun i h => ?_, fun i j a h1 h2 _ _ => (nown i h1).trans (nown j h2).symm, fun i j h1 h2 => (nown i (.inl h1)).trans (nown j (.inl h2)).symm, fun c h => ?_, fun p hp => ?_⟩
  · rw [start_len, List.length_cons, List.length_cons, hv.length]; simp; omega
  · cases i with
    | zero => simp at h
    | succ i =>
      obtain ⟨v, h1, h2⟩ := hv.get (start_val (by simpa using h))
      refine ⟨v, start_slot (by simpa using h1), h2.less fun a q => q.elim _root_.id fun ⟨j, q, hs⟩ => ?_⟩
      have := nown j q
      subst this
      rw [s0] at hs
      cases hs
      exact hA
  · have := nown i (.inr ⟨es, h⟩)
    subst this
    simp at h
  · have := nown i (.inl h)
    subst this
    exact ⟨hO, b, s0, hB, .inl hb⟩
  · rw [hb] at h; cases h
    exact ⟨0, rfl, s0⟩
  · rw [hk] at hp; cases hp
theorem defB_ok {C : Ct} {x qual : Str} {params : Arguments} {body : List Stmt} {scope : Scope} {f : Addr} {fd : FuncData} {ps : List Str} {id : Nat} {g : Fn} {fuel : Nat} (kn : U.knows n C.fns) (fc : U.facts C.gcs C.excs C.blts) (Fd : FunD U.K x qual params body scope [] [] f fd) (S : FnScope C.N ps scope)
    (hsc : C.sc = scope) (hc : cSs fuel C body = some g.body) (hfn : U.Pg.fn id = some g) (hnp : g.np = ps.length) (hnl : g.nl = C.N.length) (hbag : g.bag = true) (hO : 0 ∈ C.O) (hsb : C.sb = false) (hnew : C.new = false) (hlm : C.lams = []) :
    FnOk U.P U.w U.K U.mg U.base (L2N.CX U.P U.w) (3 * (n + 1)) f fd ps (spB U.T U.cls (callB U.Pg (n + 1)) U.K id ps.length) := by
  refine Fd.ok (k := 3 * n + 2) S (fun vs H Q E h => h.1) fun cdv A outer s H vs Q E hr h => ?_
  obtain ⟨hl, A0, ds, b, B, us, rfl, dA, hT, hA, hB, hv, h⟩ := h
  have G := gdS (U := U) (n := n) (C := C) (qual := qual) (scope := scope) (f := f) (cdv := cdv) (A := A) (outer := outer) (s := s) (H := H) (E := E) (b0 := some b) (A0 := A0) kn fc S.nd hsc S.kind (fun z => by rw [hsb] at z; cases z) (hr.mono (by omega)) fun x lb hx => by rw [hlm] at hx; cases hx
  refine ⟨_, cSs_ok fuel _ _ _ C body g.body G hc, _, B, si_startB (F := U.fx n H (some b) A0 C.O) (N := C.N) (ds := ds) rfl hO rfl hT dA hA hB hv, ?_⟩
  have hdl : ds.length + 1 = g.np := by rw [hnp, ← hl, List.length_cons, hv.length]
  have hst : startE g ds = .bag :: (ds.map .val ++ List.replicate (C.N.length - (ds.length + 1)) .emp) := by
    unfold startE
    rw [hbag, hnl, hdl]
    rfl
  have hcall : callB U.Pg (n + 1) id ds B = endD (evSs (tab U.Pg n) g.body (startE g ds) B) := by
    simp only [callB, hfn, hbag, hdl]
    rfl
  rw [hcall, hst] at h
  show Wish (U.fx n H (some b) A0 C.O) _ C.new (evSs (tab U.Pg n) g.body _ B) _
  cases q : evSs (tab U.Pg n) g.body (.bag :: (ds.map .val ++ List.replicate (C.N.length - (ds.length + 1)) .emp)) B with
  | stuck => rw [q] at h; exact h
  | err c =>
    rw [q] at h
    exact fun H' x => h H' x
  | ok pr =>
    obtain ⟨y, B'⟩ := pr
    rw [q] at h
    cases y with
    | nx e' =>
      intro σ' H' I'
      obtain ⟨i, h1, h2⟩ := I'.b0 b rfl
      obtain ⟨_, b', e1, e2, _⟩ := I'.bag i h1
      rw [h2] at e1; cases e1
      exact h .non H' I'.ext e2 .ofN
    | rt d => exact fun v H' r => h v H' r.ext (r.bag b rfl) r.dv
end
end PD
set_option linter.all false
set_option maxRecDepth 100000
set_option maxHeartbeats 2000000
/-! While an exception is handled: ends of iterators, unpacking. -/
namespace PD
open PySem PySem.Spec PyProof.Rows L2 HotX
section
variable {prog : Program} {w : World} {A : Around} {E : Value → Shared → Prop} {s : Shared}
theorem _root_.HotX.HotAt.in1 {x1 : Addr} {h : Heap} (hot : HotAt A x1 h) : HotAt A.in1 x1 h := hot
theorem _root_.HotX.HotAt.to {x1 : Addr} {h h' : Heap} (hot : HotAt A x1 h) (k : ∀ o, h.get? x1 = some o → h'.get? x1 = some o) : HotAt A x1 h' := by
  obtain ⟨hh, o, vs, e, d, c⟩ := hot
  exact ⟨hh, o, vs, k o e, d, c⟩
/-- the exception is no object of other fields -/
theorem _root_.HotX.HotAt.ne {x1 b : Addr} {h : Heap} {o : Obj} {vs : Array Value} (hot : HotAt A x1 h) (e : h.get? b = some o) (d : o.data = .fields vs) (n : vs[2]? ≠ some .none) : x1 ≠ b := fun q => by
  obtain ⟨_, o1, v1, e1, d1, c1⟩ := hot
  rw [q, e] at e1
  cases e1
  rw [d] at d1
  cases d1
  exact n c1
/-- StopIteration, raised -/
theorem stop_hot {α : Type} {x1 : Addr} {Q : α → Shared → Prop} (hot : HotAt A x1 s.heap)
    (h : ∀ h' e, (∀ b o, s.heap.get? b = some o → h'.get? b = some o) → (∃ o, h'.get? e = some o ∧ o.cls = .type "StopIteration") → E (.ref e) { s with heap := h' }) :
    wpAny (model prog w) A (newExc (.type "StopIteration") [] >>= fun e => (raiseNew e : Sem α)) Q E s := by
  refine wpAny_bind ?_
  simp only [newExc, newTuple]
  refine wpAny_bind (wpAny_newObj_type ?_ (by size_fits))
  refine wpAny_bind (m := firstArgMember _ _) (wpAny_of_eq (a := Value.none) (by first | rfl | (simp only [firstArgMember]; rfl)) ?_)
  refine wpAny_newObj_type ?_ (by size_fits)
  obtain ⟨hh, o1, v1, e1, d1, c1⟩ := id hot
  refine raiseNew_hot (hot.to fun o e => Heap.get?_push_of_some _ (Heap.get?_push_of_some _ e)) (Nat.ne_of_lt (Heap.lt_size (Heap.get?_push_of_some _ e1))) (Heap.get?_push_size _ rfl) rfl (by first | (simp; done) | (simp; omega) | (simp only [Array.size_append]; simp; omega)) ?_
  refine h _ _ (fun b o e => ?_) ⟨_, Heap.get?_update_self _ (Heap.get?_push_size _ rfl) rfl, rfl⟩
  rw [Heap.get?_update_other _ _ (Nat.ne_of_gt (Heap.lt_size (Heap.get?_push_of_some _ e)))]
  exact Heap.get?_push_of_some _ (Heap.get?_push_of_some _ e)
/-- a list's iterator at its end -/
theorem listEnd_hot {it l x1 : Addr} {i : Nat} {ys : Array Value} {Q : Value → Shared → Prop} (hot : HotAt A x1 s.heap) (hit : s.heap.IsListIter it l i) (hl : s.heap.IsList l ys) (hx : ys[i]? = none)
    (hE : ∀ h' e, Heap.ExtBut it s.heap h' → (∃ o, h'.get? e = some o ∧ o.cls = .type "StopIteration") → E (.ref e) { s with heap := h' }) : wpAny (model prog w) A (Builtin.SmallTypes.nextOf (.ref it)) Q E s := by
  obtain ⟨o, ho, hc, hd⟩ := id hit
  obtain ⟨ol, hol, _, nl, hdl⟩ := hl
  have hne := hot.ne ho hd (by simp)
  unfold Builtin.SmallTypes.nextOf
  refine wpAny_bind (wpAny_callSpecial?_slot (name := Str.ofString "__next__") hit.typeIs slot_listiter_next (wpAny_call_entry slot_listiter_next hit.typeIs entry_listiter_next ?_ (args_listiter_next _)))
  show wpAny _ _ (field (.ref it) 0 >>= _) _ _ s
  refine wpAny_bind (wpAny_field ho hd (x := .ref l) rfl ?_)
  show wpAny _ _ (if (Value.ref l == Value.none) = true then _ else _) _ _ s
  rw [if_neg (show ¬ ((Value.ref l == Value.none) = true) from Bool.false_ne_true)]
  show wpAny _ _ (field (.ref it) 1 >>= _) _ _ s
  refine wpAny_bind (wpAny_field ho hd (x := .int i 0) rfl (wpAny_bind (wpAny_seqItems hol hdl ?_)))
  simp only [Int.toNat_natCast, hx]
  refine wpAny_bind (wpAny_rule (wpAny_bind (wpAny_setField ho hd (by simp) ?_)))
  refine stop_hot (hot.in1.to fun o e => by rw [Heap.get?_update_other _ _ (Ne.symm hne)]; exact e) fun h' e k he => hE h' e (fun b o' hb e' => k b o' ?_) he
  rw [Heap.get?_update_other _ _ (Ne.symm hb)]
  exact e'
theorem tupEnd_hot {it t x1 : Addr} {i : Nat} {ys : Array Value} {Q : Option Value → Shared → Prop} (hot : HotAt A x1 s.heap) (hit : IsTupIter s.heap it t i) (ht : IsTup s.heap t ys) (hx : ys[i]? = none)
    (hQ : ∀ h', Heap.ExtBut it s.heap h' → Q none { s with heap := h' }) : wpAny (model prog w) A (pyNext (.ref it)) Q E s := by
  obtain ⟨o, ho, hc, hd⟩ := id hit
  obtain ⟨ol, hol, _, nl, hdl⟩ := ht
  have hne := hot.ne ho hd (by simp)
  unfold pyNext
  refine wpAny_bind (wpAny_attempt (wpAny_callSpecial?_slot (name := Str.ofString "__next__") hit.typeIs slot_tupleiter_next (wpAny_call_entry slot_tupleiter_next hit.typeIs entry_tupleiter_next ?_ (args_tupleiter_next _))))
  show wpAny _ _ (field (.ref it) 0 >>= _) _ _ s
  refine wpAny_bind (wpAny_field ho hd (x := .ref t) rfl ?_)
  show wpAny _ _ (if (Value.ref t == Value.none) = true then _ else _) _ _ s
  rw [if_neg (show ¬ ((Value.ref t == Value.none) = true) from Bool.false_ne_true)]
  show wpAny _ _ (field (.ref it) 1 >>= _) _ _ s
  refine wpAny_bind (wpAny_field ho hd (x := .int i 0) rfl (wpAny_bind (wpAny_seqItems hol hdl ?_)))
  simp only [Int.toNat_natCast, hx]
  refine wpAny_bind (wpAny_rule (wpAny_bind (wpAny_setField ho hd (by simp) ?_)))
  refine stop_hot (hot.in1.to fun o e => by rw [Heap.get?_update_other _ _ (Ne.symm hne)]; exact e) fun h' e k he => ?_
  obtain ⟨oe, q1, q2⟩ := he
  refine wpAny_bind (wpAny_isInstance (T := "StopIteration") (b := true) ⟨oe, q1, q2⟩ isSubtype_stop (wpAny_pure (hQ _ fun b o' hb e' => k b o' ?_)))
  rw [Heap.get?_update_other _ _ (Ne.symm hb)]
  exact e'
theorem unpack_hot {t x1 : Addr} {ys : Array Value} {Q : List Value → Shared → Prop} (hot : HotAt A x1 s.heap) (ht : IsTup s.heap t ys) (hQ : ∀ h', Heap.ExtBut s.heap.objs.size s.heap h' → Q ys.toList { s with heap := h' }) :
    wpAny (model prog w) A (unpackItems (.ref t) ys.size none) Q E s := by
  have hlt : t ≠ s.heap.objs.size := by
    obtain ⟨o, ho, _⟩ := ht
    exact Nat.ne_of_lt (Heap.lt_size ho)
  have hx1 : x1 ≠ s.heap.objs.size := by
    obtain ⟨_, o, _, ho, _⟩ := hot
    exact Nat.ne_of_lt (Heap.lt_size ho)
  unfold unpackItems
  refine wpAny_bind ?_
  unfold notIterableAtAll
  refine wpAny_bind (wpAny_specialOf ht.typeIs slot_tuple_iter.lookup (wpAny_pure ?_))
  simp only [Bool.false_eq_true, if_false]
  refine wpAny_bind (wpAny_holding (iter_tuple ht ?_))
  refine wpAny_bind (wpAny_holding (draw_tuple hlt ys.size 0 _ _ ⟨_, Heap.get?_push_size _ rfl, rfl, rfl⟩ (ht.push _) (by omega) fun h1 hit1 hs1 => ?_))
  have hall : List.take ys.size (List.drop 0 ys.toList) = ys.toList := by
    rw [List.drop_zero]; exact List.take_of_length_le (by simp)
  rw [hall, if_neg (by simp)]
  have up : ∀ b o, b ≠ s.heap.objs.size → s.heap.get? b = some o → h1.get? b = some o := fun b o hb e => hs1.extBut b o hb (Heap.get?_push_of_some _ e)
  refine wpAny_bind (wpAny_holding (tupEnd_hot (hot.to fun o e => up _ o hx1 e) hit1 ((ht.push _).extBut hs1.extBut hlt) (by simp) fun h2 he2 => ?_))
  simp only [Option.isSome_none, Bool.false_eq_true, if_false]
  exact wpAny_pure (hQ h2 fun b o hb e => he2 b o hb (up b o hb e))
theorem assign_hot {env : Env} {elts : List Expr} {kk : Nat} {pos : Pos} {t x1 : Addr} {ys : Array Value} {Q : Unit → Shared → Prop} (hot : HotAt A x1 s.heap) (ht : IsTup s.heap t ys) (hn : (assignEach elts env).length = ys.size) (hstar : (assignEach elts env).findIdx? (·.1) = none)
    (h : ∀ h', Heap.ExtBut s.heap.objs.size s.heap h' → wpAny (model prog w) A (assignInOrder ((assignEach elts env).map (·.2)) ys.toList) Q E { s with heap := h' }) : wpAny (model prog w) A (assign (.Tuple elts kk pos) env (.ref t)) Q E s := by
  rw [assign_Tuple]
  refine wpAny_bind (wpAny_standAt ?_)
  unfold unpack
  rw [hn, hstar]
  exact wpAny_bind (wpAny_holding (unpack_hot hot ht h))
/-- zip, its first list at its end -/
theorem zipEnd_hot {z TI TO i1 i2 l1 l2 x1 : Addr} {k1 k2 : Nat} {xs ys : Array Value} {a b : Value} {Q : Option Value → Shared → Prop} (hot : HotAt A x1 s.heap) (D : ZipApart z TI TO i1 i2 l1 l2)
    (hz : IsZip s.heap z TI TO .none) (hTI : IsPair s.heap TI (.ref i1) (.ref i2)) (hTO : IsPair s.heap TO a b) (h1 : s.heap.IsListIter i1 l1 k1) (hl1 : s.heap.IsList l1 xs) (hend : xs[k1]? = none)
    (hQ : ∀ h', (∀ c o, c ≠ z → c ≠ TO → c ≠ i1 → c ≠ i2 → s.heap.get? c = some o → h'.get? c = some o) → Q none { s with heap := h' }) : wpAny (model prog w) A (pyNext (.ref z)) Q E s := by
  have hT : s.TypeIs (.ref z) "zip" := ⟨_, hz, rfl⟩
  have hnz : x1 ≠ z := hot.ne hz rfl (by simp)
  unfold pyNext
  refine wpAny_bind (wpAny_attempt (wpAny_callSpecial?_slot (name := Str.ofString "__next__") hT F.slot_zip_next (wpAny_call_entry F.slot_zip_next hT F.entry_zip_next ?_ (F.args_zip_next_1 _))))
  show wpAny _ _ (field (.ref z) 2 >>= _) _ _ _
  refine wpAny_bind (wpAny_field hz rfl (x := .bool false) rfl ?_)
  show wpAny _ _ (field (.ref z) 3 >>= _) _ _ _
  refine wpAny_bind (wpAny_field hz rfl (x := .ref TI) rfl (wpAny_bind (wpAny_seqItems hTI rfl ?_)))
  show wpAny _ _ (Builtin.SmallTypes.ownedTupleIsFree (.ref z) >>= _) _ _ _
  refine wpAny_bind ?_
  unfold Builtin.SmallTypes.ownedTupleIsFree
  refine wpAny_bind (wpAny_field hz rfl (x := .none) rfl (wpAny_pure ?_))
  simp only [if_true]
  refine wpAny_bind (wpAny_rule (wpAny_bind (wpAny_field hz rfl (x := .ref TO) rfl (wpAny_bind (wpAny_setField_rec hz (by simp) fun h2 hz2 hs2 => ?_)))))
  replace hz2 : IsZip h2 z TI TO .ellipsis := hz2
  refine wpAny_bind ?_
  simp only [List.zipIdx_cons, List.zipIdx_nil, List.forIn_cons, List.forIn_nil]
  refine wpAny_bind (wpAny_bind (wpAny_onRaise ?_))
  show wpAny _ _ (Builtin.SmallTypes.nextOf (.ref i1) >>= _) _ _ _
  refine wpAny_bind (listEnd_hot (x1 := x1) (hot.in1.to fun o e => hs2.extBut _ _ hnz e) (h1.extBut hs2.extBut D.i1z) (hl1.extBut hs2.extBut D.l1z) hend fun h3 e hs3 he => ?_)
  obtain ⟨oe, hoe, hce⟩ := he
  have hz3 : IsZip h3 z TI TO .ellipsis := hs3 _ _ D.i1z.symm hz2
  have hez : e ≠ z := fun q => by
    subst q
    rw [hz3] at hoe
    cases hoe
    simp at hce
  refine wpAny_setField_rec hz3 (by simp) fun h4 _ hs4 => ?_
  refine wpAny_bind (wpAny_isInstance (T := "StopIteration") (b := true) ⟨oe, hs4.extBut _ _ hez hoe, hce⟩ isSubtype_stop (wpAny_pure (hQ _ fun c o c1 _ c3 _ q => ?_)))
  exact hs4.extBut _ _ c1 (hs3 _ _ c3 (hs2.extBut _ _ c1 q))
end
end PD
set_option linter.all false
set_option maxRecDepth 100000
set_option maxHeartbeats 2000000
/-! While an exception is handled: [.. for a, b in zip(xs, ys) if ..]. -/
namespace PD
open PySem PySem.Spec PyProof.Rows L2 HotX L2H
/-- as L2.Turn, the end told of a state where an exception is handled -/
structure TurnP (P : Program) (w : World) (K : PySem.W.Frag) (tg : Expr) (J : It) (fp : List Addr) (it : Addr) (tn : Nat → Heap → Prop) : Prop where
  obj : ∀ i h, tn i h → ∀ b ∈ fp, ∃ o, h.get? b = some o ∧ ∀ v, o.data ≠ .cell v
  keep : ∀ i h h', tn i h → (∀ b ∈ fp, ∀ o, h.get? b = some o → h'.get? b = some o) → tn i h'
  item : ∀ (X : Cx), X.prog = P → X.w = w → X.K = K → ∀ (i : Nat) (pins : List (Addr × Obj)) (s : Shared) (σ : L2.St) (H : Hp) (E : Value → Shared → Prop), Inv X pins σ H s → (∀ b ∈ fp, FpOk X pins H b) → tn i s.heap → J.go i H →
    wpAny (model P w) X.A (pyNext (.ref it)) (fun r s1 => ∃ u, r = some u ∧ wpAny (model P w) X.A (letOwnedTupleGo tg (.ref it) u) (fun _ s2 => ∃ x H', Inv X pins σ H' s2 ∧ RelV x u ∧ J.yld i H x H' ∧ tn (i + 1) s2.heap ∧ ∀ b ∈ fp, H' b = none) E s1) E s
  done : ∀ (X : Cx), X.prog = P → X.w = w → X.K = K → ∀ (i : Nat) (pins : List (Addr × Obj)) (s : Shared) (σ : L2.St) (H : Hp) (E : Value → Shared → Prop) (x1 : Addr), HotAt X.A x1 s.heap → Inv X pins σ H s → (∀ b ∈ fp, FpOk X pins H b) → tn i s.heap → J.stop i H →
    wpAny (model P w) X.A (pyNext (.ref it)) (fun r s1 => r = none ∧ Inv X pins σ H s1) E s
  self : ∀ (A : Around) (i : Nat) (s : Shared) (Q : Value → Shared → Prop) (E : Value → Shared → Prop), tn i s.heap → Q (.ref it) s → wpAny (model P w) A (pyIter (.ref it)) Q E s
/-- zip of two lists, the first ending first -/
def ItzP (K : PySem.W.Frag) (a b : Addr) : It :=
  ⟨(Itz K a b).go, (Itz K a b).yld, fun i H => ∃ xs ys : List V, SqL K H a xs ∧ SqL K H b ys ∧ xs.length ≤ i⟩
theorem five {z TI TO i1 i2 c : Addr} (h : c ∈ [z, TI, TO, i1, i2]) : c = z ∨ c = TI ∨ c = TO ∨ c = i1 ∨ c = i2 := by simpa using h
theorem turn_zipP {P : Program} {w : World} {K : PySem.W.Frag} {elts : List Expr} {kk : Nat} {tpos : Pos} {a b z TI TO i1 i2 : Addr} (D : ZipApart z TI TO i1 i2 a b) :
    TurnP P w K (.Tuple elts kk tpos) (ItzP K a b) [z, TI, TO, i1, i2] z (fun i h => IsZip h z TI TO .none ∧ IsPair h TI (.ref i1) (.ref i2) ∧ (∃ x y, IsPair h TO x y) ∧ h.IsListIter i1 a i ∧ h.IsListIter i2 b i) := by
  refine ⟨fun i h st c hc => (turn_zip (P := P) (w := w) (K := K) (elts := elts) (kk := kk) (tpos := tpos) D).obj i h st c hc, fun i h h' st k => (turn_zip (P := P) (w := w) (K := K) (elts := elts) (kk := kk) (tpos := tpos) D).keep i h h' st k, ?_, ?_, fun A i s Q E st h => wpAny_pyIter_zip st.1 h⟩
  · intro X hP hw hK i pins s σ H E I hf st hg
    subst hP hw hK
    obtain ⟨hz, hTI, ⟨x0, y0, hTO⟩, h1, h2⟩ := st
    obtain ⟨xs, ys, x, y, hqx, hqy, hx, hy⟩ := hg
    obtain ⟨its, rv, pl, _⟩ := I.list hqx
    obtain ⟨its2, rv2, pl2, _⟩ := I.list hqy
    obtain ⟨u, hu, ru⟩ := rv.get hx
    obtain ⟨u2, hu2, ru2⟩ := rv2.get hy
    have zl : z < s.heap.objs.size := Heap.lt_size hz
    refine wpAny_pyNext_zip_item D hz hTI hTO h1 h2 pl.isList pl2.isList (x := u) (y := u2) (by simpa using hu) (by simpa using hu2) fun q z' TO' h1' h2' hT hsz hk => ⟨_, rfl, wpAny_letOwnedTupleGo_zip (s := { s with heap := q }) z' fun q2 z2 sb => ?_⟩
    have away : ∀ c o, c ∉ [z, TI, TO, i1, i2] → s.heap.get? c = some o → q2.get? c = some o := fun c o hc e => by
      have n : ∀ d ∈ [z, TI, TO, i1, i2], c ≠ d := fun d hd q => hc (by rw [q]; exact hd)
      exact (sb.2 c (n z (by simp))).trans (hk c o (n z (by simp)) (n TO (by simp)) (n i1 (by simp)) (n i2 (by simp)) e)
    have hT2 : q2.get? s.heap.objs.size = some { cls := .type "tuple", data := .seq #[u, u2] } := (sb.2 _ (Nat.ne_of_gt zl)).trans hT
    have new : ObjOk X.prog X.w (upd H s.heap.objs.size (.tup [x, y])) q2 s.heap.objs.size (.tup [x, y]) := ⟨show 2 ≤ sizeLine by decide, [u, u2], .cons ru (.cons ru2 .nil), ⟨_, hT2, rfl, _, rfl⟩⟩
    refine ⟨.ref s.heap.objs.size, _, I.turnedNew (t' := s.toks) (ch := [z, TI, TO, i1, i2]) away hf (Nat.le_refl _) new, rfl, ⟨_, x, y, rfl, I.hok.fresh (Nat.le_refl _), rfl, fun l hl => by rw [I.list_inj hl hqx]; exact hx, fun l hl => by rw [I.list_inj hl hqy]; exact hy⟩, ⟨z2, ?_, ⟨u, u2, ?_⟩, ?_, ?_⟩, fun c hc => ?_⟩
    · exact (sb.2 _ D.TIz).trans (hk _ _ D.TIz D.TITO D.TIi1 D.TIi2 hTI)
    · exact (sb.2 _ D.TOz).trans TO'
    · exact h1'.at fun o e => (sb.2 _ D.i1z).trans e
    · exact h2'.at fun o e => (sb.2 _ D.i2z).trans e
    · have lt : c < s.heap.objs.size := by
        rcases five hc with e | e | e | e | e <;> rw [e]
        · exact zl
        · exact Heap.lt_size hTI
        · exact Heap.lt_size hTO
        · obtain ⟨_, e1, _⟩ := h1; exact Heap.lt_size e1
        · obtain ⟨_, e2, _⟩ := h2; exact Heap.lt_size e2
      rw [upd_ne (Nat.ne_of_lt lt)]
      exact (hf c hc).1
  · intro X hP hw hK i pins s σ H E x1 hot I hf st hg
    subst hP hw hK
    obtain ⟨hz, hTI, ⟨x0, y0, hTO⟩, h1, h2⟩ := st
    obtain ⟨xs, ys, hqx, hqy, hend⟩ := hg
    obtain ⟨its, rv, pl, _⟩ := I.list hqx
    have l1 := rv.length
    refine zipEnd_hot (k2 := 0) (ys := #[]) hot D hz hTI hTO h1 pl.isList (by simp; omega) fun q hk => ⟨rfl, I.turnedL (t' := s.toks) (ch := [z, TI, TO, i1, i2]) (fun c o hc e => ?_) hf⟩
    have n : ∀ d ∈ [z, TI, TO, i1, i2], c ≠ d := fun d hd q => hc (by rw [q]; exact hd)
    exact hk c o (n z (by simp)) (n TO (by simp)) (n i1 (by simp)) (n i2 (by simp)) e
/-- an iterator has come -/
def PIEP (X : Cx) (pins : List (Addr × Obj)) (σ : L2.St) (tg : Expr) (R : It → Hp → Prop) (itv : Value) (s2 : Shared) : Prop :=
  ∃ (it : Addr) (fp : List Addr) (tn : Nat → Heap → Prop) (J : It) (H' : Hp), itv = .ref it ∧ Inv X pins σ H' s2 ∧ TurnP X.prog X.w X.K tg J fp it tn ∧ tn 0 s2.heap ∧ (∀ b ∈ fp, FpOk X pins H' b) ∧ R J H'
structure PIP (X : Cx) (tg iter : Expr) (wi : TI) : Prop where
  run : ∀ (pins : List (Addr × Obj)) (s : Shared) (σ : L2.St) (H : Hp) (R : It → Hp → Prop), Inv X pins σ H s → wi σ H R →
    wpAny (model X.prog X.w) X.A (eval iter X.env) (fun v s1 => wpAny (model X.prog X.w) X.A (pyIter v) (PIEP X pins σ tg R) X.xe s1) X.xe s
def iZipP (K : PySem.W.Frag) (ta : TA) : TI := fun σ H R => ta σ H fun vs H1 => ∃ a b xs ys, vs = [.ref a, .ref b] ∧ SqL K H1 a xs ∧ SqL K H1 b ys ∧ R (ItzP K a b) H1
theorem pi_zipP {X : Cx} {e e2 : Expr} {ta : TA} {p pos tpos : Pos} {elts : List Expr} {kk : Nat} (hg : Gl X "zip") (hm : X.mg "zip" = none) (ha : PA X [e, e2] ta)
    (hs : starEach [e, e2] X.env = (false, eval e X.env) :: starEach [e2] X.env) (hpl : (backTo pos (starEach [e2] X.env)).any (·.1) = false) : PIP X (.Tuple elts kk tpos) (.Call (.Name "zip" p) [e, e2] [] pos) (iZipP X.K ta) := by
  refine ⟨fun pins s σ H R I h => Call_ (ld_blt I hg hm PyProof.Rows.boot_zip (PyProof.Rows.callWith_type1 (thn (ha.run pos pins s σ H _ I h) fun us s1 ⟨vs, H1, I1, r1, q1⟩ => ?_) hs hpl))⟩
  obtain ⟨a, b, xs, ys, ex, hqx, hqy, q⟩ := q1
  subst ex
  obtain ⟨u, v, rfl, ru, rv⟩ := r1.two
  cases ru
  cases rv
  obtain ⟨its, rv, p1, _⟩ := I1.list hqx
  obtain ⟨its2, rv2, p2, _⟩ := I1.list hqy
  refine call_zip_2 p1.isList p2.isList fun h' hz hTI hTO h1 h2 hsz hk => wpAny_pyIter_zip hz ?_
  refine ⟨s1.heap.objs.size + 4, [s1.heap.objs.size + 4, s1.heap.objs.size + 2, s1.heap.objs.size + 3, s1.heap.objs.size, s1.heap.objs.size + 1], _, _, H1, rfl, I1.kept (t' := s1.toks) hk, turn_zipP (PySem.W.ktu_apart s1.heap.objs.size a b p1.lt p2.lt), ⟨hz, hTI, ⟨_, _, hTO⟩, h1, h2⟩, fun c hc => ?_, q⟩
  have hle : s1.heap.objs.size ≤ c := by
    rcases five hc with e | e | e | e | e <;> rw [e] <;> first | exact Nat.le_refl _ | exact Nat.le_add_right _ _
  exact I1.fpOk hle (I1.hok.fresh hle)
/-- a, b = a pair -/
theorem pg_hot {X : Cx} {es : List Expr} {k : Nat} {t : TGs} {n : Nat} {pos : Pos} (h : PGs X es t) (hn : (assignEach es X.env).length = n) (hst : (assignEach es X.env).findIdx? (·.1) = none) {pins : List (Addr × Obj)} {s : Shared} {σ : L2.St} {H : Hp} {v : V} {u : Value} {Q : L2.St → Hp → Prop} {x1 : Addr} (hot : HotAt X.A x1 s.heap)
    (I : Inv X pins σ H s) (r : RelV v u) (hw : gTup X.K n t v σ H Q) : wpAny (model X.prog X.w) X.A (assign (.Tuple es k pos) X.env u) (fun _ s' => ∃ σ' H', Inv X pins σ' H' s' ∧ Q σ' H') X.xe s := by
  obtain ⟨a, xs, e1, hq, hl, hw⟩ := hw
  subst e1
  cases r
  obtain ⟨its, rv, ht, hz⟩ := I.tuple hq
  refine assign_hot hot ht (by simp [hn, ← hl, rv.length]) hst fun h' hx => h.run pins _ σ H xs _ Q (I.kept (t' := s.toks) fun b o e => hx b o (Nat.ne_of_lt (Heap.lt_size e)) e) (by simpa using rv) hw
section
variable {X : Cx}
theorem pe_lcP {elt iter : Expr} {es : List Expr} {k n : Nat} {tpos : Pos} {ifs : List Expr} {scope : Scope} {own : List (Str × Nat)} {pos : Pos} {wi : TI} {tgs : TGs} {tt : TT} {te : TE} {p : Addr × Obj} (hot : Hot1 X.A p) (hpn : p ∈ X.pn) (hN : X.N.Nodup) (hi : PIP X (.Tuple es k tpos) iter wi) (ok : BlkOk X.N X.env.scope scope own)
    (hg : ∀ (s : Shared) (H : Hp) (C : Addr) (cl : List (Str × Addr)) (fp : List Addr), PGs (X.blk s H scope (compEnvC scope cl C X.env) fp) es tgs) (hn : ∀ env, (assignEach es env).length = n) (hst : ∀ env, (assignEach es env).findIdx? (·.1) = none)
    (ht : ∀ (s : Shared) (H : Hp) (C : Addr) (cl : List (Str × Addr)) (fp : List Addr), PTs (X.blk s H scope (compEnvC scope cl C X.env) fp) ifs tt)
    (he : ∀ (s : Shared) (H : Hp) (C : Addr) (cl : List (Str × Addr)) (fp : List Addr), PE (X.blk s H scope (compEnvC scope cl C X.env) fp) elt te) (hs : ∀ x, foldedSetIterable iter X.env x = pure x) :
    PE X (.ListComp elt [⟨.Tuple es k tpos, iter, ifs, 0⟩] scope pos) (tLc wi (gTup X.K n tgs) tt te (own.map (·.2))) := by
  refine ⟨fun pins s σ H Q I h => ?_⟩
  rw [eval_ListComp]
  have hfree : ∀ y ∈ scope.names, y.2 = .free → ∃ c, X.env.cells.lookup y.1 = some c := fun y hy e => (ok.free y hy e).elim (fun q => I.ok.has _ (.inl q)) fun q => I.ok.has _ (.inr q)
  refine wpAny_comprehension_free rfl hs (closure_ok hfree) ok.kind (fun y hy e => by rw [ok.uniq y hy, e]) (thn (hi.run pins s σ H _ I h) fun xv s1 hx => thn hx fun itv s2 h2 => ?_)
  obtain ⟨it, fp, tn, J, H2, e, I2, T, st2, f2, q⟩ := h2
  subst e
  refine wpAny_newObj_type (newEnv_comp ?_) (show 0 ≤ sizeLine by decide)
  generalize hD : s2.heap.objs.size = D
  obtain ⟨W, ⟨m0, w0⟩, turn⟩ := q D (I2.hok.fresh (Nat.le_of_eq hD))
  generalize hs3 : ({ s2 with heap := s2.heap.push { cls := .type "list", data := .seq ([] : List Value).toArray } } : Shared) = s3
  have h3 : s3.heap = s2.heap.push { cls := .type "list", data := .seq ([] : List Value).toArray } := by rw [← hs3]
  have I3 : Inv X pins σ (upd H2 D (.lst [])) s3 := by
    rw [← hs3]
    refine I2.laid (t' := s2.toks) (fun b o e => Heap.get?_push_of_some _ e) (Nat.le_of_eq hD) ⟨Nat.zero_le _, [], 0, .nil, ?_⟩
    rw [← hD]
    exact Heap.get?_push_size _ rfl
  have sz : ∀ b ∈ fp, b < s2.heap.objs.size := fun b hb => by
    obtain ⟨o, e, _⟩ := T.obj _ _ st2 b hb
    exact Heap.lt_size e
  have f3 : ∀ b ∈ fp, FpOk X pins (upd H2 D (.lst [])) b ∧ b < s3.heap.objs.size := fun b hb => by
    refine ⟨⟨?_, (f2 b hb).2⟩, by rw [h3, Heap.size_push]; exact Nat.lt_succ_of_lt (sz b hb)⟩
    rw [upd_ne (by rw [← hD]; exact Nat.ne_of_lt (sz b hb))]
    exact (f2 b hb).1
  have st3 : tn 0 s3.heap := T.keep _ _ _ st2 fun b _ o e => by rw [h3]; exact Heap.get?_push_of_some _ e
  have I4 := block_start I3 ok hN f3
  have pg := hg s3 (upd H2 D (.lst [])) s3.heap.objs.size (cellsFrom (s3.heap.objs.size + 1) scope.names (cloFrom X.env.cells scope.names [])) fp
  have pt := ht s3 (upd H2 D (.lst [])) s3.heap.objs.size (cellsFrom (s3.heap.objs.size + 1) scope.names (cloFrom X.env.cells scope.names [])) fp
  have pe := he s3 (upd H2 D (.lst [])) s3.heap.objs.size (cellsFrom (s3.heap.objs.size + 1) scope.names (cloFrom X.env.cells scope.names [])) fp
  show codeAny _ _ (.compStart (.ListComp elt [⟨.Tuple es k tpos, iter, ifs, 0⟩] scope pos) 0 (.ref it) (.ref D) (compEnvC scope (cellsFrom (s3.heap.objs.size + 1) scope.names (cloFrom X.env.cells scope.names [])) s3.heap.objs.size X.env)) (compPost (model X.prog X.w) X.A X.xe none _ (.ref D) s3.heap.objs.size) { s3 with heap := pushCells (s3.heap.push { cls := .type "dict", data := .dict #[] }) scope.names }
  have nfp : ∀ b ∈ fp, (upd H2 D (.lst [])) b = none := fun b hb => (f3 b hb).1.1
  generalize hce : compEnvC scope (cellsFrom (s3.heap.objs.size + 1) scope.names (cloFrom X.env.cells scope.names [])) s3.heap.objs.size X.env = ce at I4 pg pt pe ⊢
  have cL : ce.locals = s3.heap.objs.size := by subst hce; rfl
  generalize hH3 : upd H2 D (.lst []) = H3 at I3 I4 pg pt pe w0 nfp f3
  generalize hs4 : ({ s3 with heap := pushCells (s3.heap.push { cls := .type "dict", data := .dict #[] }) scope.names } : Shared) = s4 at I4 ⊢
  have up4 : ∀ b o, s3.heap.get? b = some o → s4.heap.get? b = some o := fun b o e => by rw [← hs4]; exact pushCells_keeps _ _ _ _ (Heap.get?_push_of_some _ e)
  have st4 : tn 0 s4.heap := T.keep _ _ _ st3 fun b _ o e => up4 b o e
  -- the handled exception is pinned in the block
  have P3 := I3.pin p (List.mem_append_left _ hpn)
  have I4 : Inv (X.blk s3 H3 scope ce fp) [p] (wipe σ (own.map (·.2))) H3 s4 := I4.pins_of fun q hq => by
    rw [List.mem_singleton.mp hq]
    refine ⟨up4 _ _ P3.1, P3.2.1, ?_, fun hm => (List.mem_cons.mp (I3.stkSub p.1 hm)).elim P3.2.2.1 P3.2.2.2.1, P3.2.2.2.2⟩
    show p.1 ≠ ce.locals
    rw [cL]
    exact Nat.ne_of_lt (Heap.lt_size P3.1)
  have pfp : ∀ b ∈ fp, p.1 ≠ b := fun b hb => (f3 b hb).1.2.2.2.2.2 p (List.mem_append_left _ hpn)
  have stat : ∀ {σ' : L2.St} {H' : Hp} {s' : Shared}, Inv (X.blk s3 H3 scope ce fp) [p] σ' H' s' → (∀ b ∈ fp, H' b = none) → ∀ b ∈ fp, FpOk (X.blk s3 H3 scope ce fp) [p] H' b := fun {σ' H' s'} I' hn b hb =>
    ⟨hn b hb, (I'.ok.exf b hb).1, I'.ok.exfs b hb, .inl hb, fun x c e => (I'.ok.exf b hb).2 x c e, fun q hq => by
      have e : q = p := by simpa using (show q ∈ ([] : List (Addr × Obj)) ++ [p] from hq)
      rw [e]
      exact pfp b hb⟩
  have hotAt : ∀ {σ' : L2.St} {H' : Hp} {s' : Shared} {pl : List (Addr × Obj)}, Inv (X.blk s3 H3 scope ce fp) pl σ' H' s' → p ∈ pl → HotAt X.A p.1 s'.heap := fun {σ' H' s' pl} I' hp => by
    obtain ⟨hh, vs, e1, c1⟩ := hot
    exact ⟨hh, p.2, vs, (I'.pin p (List.mem_append_right _ hp)).1, e1, c1⟩
  have loop : codeAny (model X.prog X.w) X.A (.compLoop (.ListComp elt [⟨.Tuple es k tpos, iter, ifs, 0⟩] scope pos) 0 (.ref it) (.ref D) ce) (compPost (model X.prog X.w) X.A X.xe none (EP X pins σ Q) (.ref D) s3.heap.objs.size) s4 := by
    refine compLoop_any (fun n s' => ∃ i H', Inv (X.blk s3 H3 scope ce fp) [p] (wipe σ (own.map (·.2))) H' s' ∧ tn i s'.heap ∧ (∀ b ∈ fp, H' b = none) ∧ W i n H') ?_ m0 ⟨0, H3, I4, st4, nfp, w0⟩
    rintro n s5 ⟨i, H5, I5, st5, n5, w5⟩
    rcases turn i n H5 w5 with ⟨stop, qq⟩ | ⟨go, Nx, hNx, step⟩
    · refine thnF (T.done (X.blk s3 H3 scope ce fp) rfl rfl rfl i [p] s5 _ H5 (fun _ _ => False) p.1 (hotAt I5 (by simp)) I5 (stat I5 n5) st5 stop) fun r s6 ⟨hr, I6⟩ => ?_
      subst hr
      have I7 : Inv X pins σ H5 s6 := I3.call' (ch := fp) I6.os I6.base I6.hok I6.bare fun b hb => ⟨(f3 b hb).1.2.2.2.1, (f3 b hb).1.2.1, (f3 b hb).1.2.2.2.2.1, (f3 b hb).1.2.2.2.2.2⟩
      have nC : H5 s3.heap.objs.size = none := by
        have z : H5 ce.locals = none := I6.free
        rw [cL] at z
        exact z
      obtain ⟨m, hn, _⟩ := I6.loc
      have hn : s6.heap.Ns ce.locals m := hn
      rw [cL] at hn
      obtain ⟨f0, f1, _, f3', f4, f5⟩ := I3.fpOk (Nat.le_refl _) nC
      exact ⟨m, hn, fun h'' sb => ⟨.ref D, H5, I7.turned (t' := s6.toks) (fun b o hb e => (sb.2 b hb).trans e) f0 f1 f3' f4 f5, rfl, qq⟩⟩
    · refine thnF (T.item (X.blk s3 H3 scope ce fp) rfl rfl rfl i [p] s5 _ H5 (fun _ _ => False) I5 (stat I5 n5) st5 go) fun r s6 ⟨u, hr, h6⟩ => ?_
      subst hr
      refine thnF h6 fun _ s7 ⟨x, H7, I7, r7, y7, st7, n7⟩ => ?_
      have I7' := I7.pinned (stat I7 n7) (T.obj _ _ st7)
      refine thnF (pg_hot pg (hn _) (hst _) (hotAt I7' (by simp)) I7' r7 (step x H7 y7)) fun _ s8 ⟨σ8, H8, I8, hw8, q8⟩ => ?_
      refine thnF (pt.run _ s8 σ8 H8 _ I8 q8) fun b s9 ⟨H9, I9, q9⟩ => ?_
      have fin : ∀ {s' : Shared} {H' : Hp}, Inv (X.blk s3 H3 scope ce fp) ([p] ++ pinsAt fp s7.heap) σ8 H' s' → Nx H' → ∃ m, m < n ∧ ∃ i H', Inv (X.blk s3 H3 scope ce fp) [p] (wipe σ (own.map (·.2))) H' s' ∧ tn i s'.heap ∧ (∀ b ∈ fp, H' b = none) ∧ W i m H' := fun {s' H'} I' nx => by
        obtain ⟨m', hm, w'⟩ := hNx H' nx
        have pin' : ∀ b ∈ fp, ∀ o, s7.heap.get? b = some o → s'.heap.get? b = some o ∧ H' b = none := fun b hb o e =>
          let z := I'.pin (b, o) (List.mem_append_right _ (List.mem_append_right _ (mem_pinsAt hb e)))
          ⟨z.1, z.2.1⟩
        refine ⟨m', hm, i + 1, H', (I'.unpinned (pins := [p])).weak (by rw [← hw8, wipe_length]) (fun j v e => ?_), T.keep _ _ _ st7 fun b hb o e => (pin' b hb o e).1, fun b hb => ?_, w'⟩
        · rw [← hw8] at e
          exact (wipe_some e).1
        · obtain ⟨o, e, _⟩ := T.obj _ _ st7 b hb
          exact (pin' b hb o e).2
      cases b with
      | false =>
        simp only [Bool.false_eq_true, if_false] at q9 ⊢
        exact fin I9 q9
      | true =>
        simp only [if_true] at q9 ⊢
        refine thnF (pe.run _ s9 σ8 H9 _ I9 q9) fun z s10 ⟨yv, H10, I10, r10, acc, hD10, hz10, nx⟩ => ?_
        exact app_ok (X := X.blk s3 H3 scope ce fp) I10 hD10 hz10 r10 fun s11 I11 => fin I11 nx
  exact codeAny_compStart_list loop (T.self X.A 0 _ _ _ st4 loop)
end
end PD
set_option linter.all false
set_option maxRecDepth 100000
set_option maxHeartbeats 2000000
/-! The name of a caught error: what the law's def of it does. -/
namespace PD
open PySem PySem.Spec PyProof.Rows L2 HotX L2H
theorem call_isP {X : Cx} {a D : Addr} {oe : Obj} (C : ExcC X.K D) (hp : (a, oe) ∈ X.pn) (hz : Zc (.ref D) none oe) (hf : ∃ vs, oe.data = .fields vs) : CallR X (.builtin "isinstance") (rIsE X.K D a) := by
  intro pins s σ H xs us Q I r ⟨c, cv, b, e1, hcv, e, q⟩
  subst e1
  obtain ⟨u, v, rfl, ru, rv⟩ := r.two
  cases ru
  have ec := hcv _ rv
  subst ec
  obtain ⟨hget, _⟩ := I.pin (a, oe) (List.mem_append_left _ hp)
  obtain ⟨vs, hv⟩ := hf
  have J : PySem.W.InstAt s.heap a oe D none := by
    obtain ⟨oc, od, oda, osl⟩ := oe
    obtain ⟨h1, h2⟩ := hz
    dsimp only at h1 h2 hv
    subst h1 h2 hv
    exact ⟨hget, rfl, rfl, trivial⟩
  exact PySem.W.kia_one (PySem.W.handS_kitx_exc C.hg C.hk C.hs C.hd C.ha C.hn C.ht C.hm) I.kIn J e (fun z => nomatch z) fun tk => ⟨.bl b, H, I.kept (t' := tk) fun _ _ z => z, rfl, q⟩
section
variable {X : Cx} {CX : CXT} {k : Nat} {f : Addr} {name qual : Str} {params : Arguments} {body : List Stmt} {scope : Scope} {dV kV doc pm cdv ct oc : Value} {an od : Option Addr} {osl : Array (Option Value)} {N ps : List Str}
/-- a def called while p is handled, its body told of p -/
theorem run_hotP {pins : List (Addr × Obj)} {σ : L2.St} {H : Hp} {s : Shared} {Q : VK} {E : XK} {us : List Value} {vs : List V} {p : Addr × Obj} (lk : X.K.lookup f = some ⟨oc, od, .func (PySem.W.fnOf name qual params body scope dV kV doc pm an cdv ct), osl⟩) (hcd : PySem.W.codeIn X.K cdv qual = true) (S : FnScope N ps scope)
    (hr : RoomH (k + 1) X.A) (hot : Hot1 X.A p) (hp : p ∈ X.pn) (hb : Binds X.K (PySem.W.fnOf name qual params body scope dV kV doc pm an cdv ct) ps []) (hx : ∀ e s', CX X.stack H s E e s' → X.xe e s') (I : Inv X pins σ H s) (r : Vals vs us) (hl : vs.length = ps.length)
    (hbody : RoomH k (X.A.deeper (envOfC qual scope s.heap.objs.size f cdv)) → ∃ t, PSs (cxH CX X.prog X.w X.K X.mg X.base N qual scope f cdv X.A X.stack s H E p) body t ∧ t { nx := fun _ H' => Q .non H', rt := Q } (L2.start N vs) H) :
    wpAny (model X.prog X.w) X.A (call (.ref f) us) (EP X pins σ Q) X.xe s := by
  have P1 := I.pin p (List.mem_append_left _ hp)
  have hpin : PinOk X.stack H s p := ⟨P1.1, P1.2.1, fun hm => (List.mem_cons.mp (I.stkSub p.1 hm)).elim P1.2.2.1 P1.2.2.2.1, P1.2.2.2.2⟩
  have e0 := I.env0
  have KX : X.K.In s.heap := e0.mod.kin.keeps fun b o e => (e0.bs b o e).1
  have lim : s.heap.NoLimit := e0.mod.nolimit.keeps fun b o e => (e0.bs b o e).1
  have hlu : us.length = ps.length := by rw [← r.length]; exact hl
  have bt := hb s us I.kIn (by rw [List.append_nil]; exact hlu)
  rw [List.append_nil] at bt
  have hkind : ∀ y ∈ ps.zip us, scope.names.lookup y.1 = some .local ∨ (scope.names.lookup y.1 = some .cell ∧ ((cellsFrom (s.heap.objs.size + 1) scope.names []).lookup y.1).isSome = true) := fun ⟨n, v⟩ hy => by
    rcases S.par n (List.of_mem_zip hy).1 with q | q
    · exact .inl q
    · exact .inr ⟨q, PySem.W.cellsFrom_some _ _ _ (.inl q)⟩
  have rc : codeAny (model X.prog X.w) X.A (.call (.ref f) ⟨us, []⟩) (CR CX X.stack X.prog X.w H s Q E) s := by
    refine codeAny_call_function hr.depth (KX _ _ lk) rfl S.co S.gen rfl (PySem.W.codeRec_of KX hcd) (bt _ _ _ _ (wpAny_newFunctionEnv_cells S.kind hkind fun env he s1 x => ?_))
    subst he
    refine ⟨lim.keeps x.toInCall.keep, codeAny_func ?_⟩
    obtain ⟨t, ht, hq⟩ := hbody (hr.deeper _)
    refine wpAny_mono (ht.run [] s1 (L2.start N vs) H _ (inv_startH S hpin e0 hl r x) hq) (fun fl s' hs => ?_) fun e s' hs => hs
    cases fl with
    | ret u =>
      obtain ⟨v, σ', H', J, rv, q⟩ := hs
      exact ⟨v, H', J.os, J.bare, J.base, J.hok, rv, q⟩
    | next =>
      obtain ⟨σ', H', J, q⟩ := hs
      exact ⟨V.non, H', J.os, J.bare, J.base, J.hok, rfl, q⟩
    | brk =>
      obtain ⟨_, _, _, q⟩ := hs
      exact False.elim q
    | cont =>
      obtain ⟨_, _, _, q⟩ := hs
      exact False.elim q
  refine wpAny_call (codeAny_mono rc fun res s' hq => ?_)
  cases res with
  | error e => exact hx e s' hq
  | ok fl =>
    cases fl with
    | ret u => exact I.after hq
    | next => exact False.elim hq
    | brk => exact False.elim hq
    | cont => exact False.elim hq
end
/-! ### the body -/
section
variable {X : Cx} {pos p1 p2 p3 : Pos}
/-- isinstance(e, c) -/
def tIs (a : Addr) (b : Bool) : TE := fun σ H Q => σ[0]? = some (some (.ref a)) ∧ Q (.bl b) H
theorem boot_isi' : bootBuiltins "isinstance" = some (.builtin "isinstance") := by decide +kernel
theorem is_own {a D : Addr} {oe : Obj} {c : Str} {Cc : Addr} {b : Bool} (C : ExcC X.K D) (hp : (a, oe) ∈ X.pn) (hz : Zc (.ref D) none oe) (hf : ∃ vs, oe.data = .fields vs) (h0 : X.N[0]? = some ("e" : Str)) (hv : Vis X.env.scope "e") (hg : Gl X "isinstance") (hm : X.mg "isinstance" = none)
    (hgc : Gl X c) (hmc : X.mg c = some (.ref Cc)) (hk : PySem.W.kitOne X.K (.ref D) (.ref Cc) = some b) (hd : (c == ("__debug__" : Str)) = false) : PE X (.Call (.Name "isinstance" p1) [.Name "e" p2, .Name c p3] [] pos) (tIs a b) :=
  (pe_callB (call_isP C hp hz hf) hg hm boot_isi' (pa_cons (pe_var h0 hv) (pa_cons (pe_glob (v := .ref Cc) hgc hmc rfl hd) pa_nil))).imp fun σ H Q ⟨h, q⟩ => ⟨_, h, .ref Cc, .ref Cc, b, rfl, fun u r => r, hk, q⟩
theorem is_ve {a D : Addr} {oe : Obj} {b : Bool} (C : ExcC X.K D) (hp : (a, oe) ∈ X.pn) (hz : Zc (.ref D) none oe) (hf : ∃ vs, oe.data = .fields vs) (h0 : X.N[0]? = some ("e" : Str)) (hv : Vis X.env.scope "e") (hg : Gl X "isinstance") (hm : X.mg "isinstance" = none)
    (hgc : Gl X "ValueError") (hmc : X.mg "ValueError" = none) (hk : PySem.W.kitOne X.K (.ref D) (.type "ValueError") = some b) : PE X (.Call (.Name "isinstance" p1) [.Name "e" p2, .Name "ValueError" p3] [] pos) (tIs a b) :=
  (pe_callB (call_isP C hp hz hf) hg hm boot_isi' (pa_cons (pe_var h0 hv) (pa_cons (pe_bltn (v := .ty "ValueError") hgc hmc boot_ValueError rfl) pa_nil))).imp fun σ H Q ⟨h, q⟩ => ⟨_, h, .ty "ValueError", .type "ValueError", b, rfl, fun u r => r, hk, q⟩
end
def ownCls : List Str := ["InvalidLand", "InvalidScript", "InvalidAmount", "InvalidNumber", "InvalidFacts", "InvalidText", "TooLate", "NothingToUndo"]
/-- the class of an error, as isinstance sees it: of the eight own classes, of ValueError -/
structure Named (X : Cx) (D : Addr) (bs : List Bool) : Prop where
  C : ExcC X.K D
  own : ∀ (i : Nat) (c : Str), ownCls[i]? = some c → ∃ Cc b, X.mg c = some (.ref Cc) ∧ bs[i]? = some b ∧ PySem.W.kitOne X.K (.ref D) (.ref Cc) = some b
  ve : ∃ b, bs[8]? = some b ∧ PySem.W.kitOne X.K (.ref D) (.type "ValueError") = some b
  mv : X.mg "ValueError" = none
  mi : X.mg "isinstance" = none
  mz : X.mg "zip" = none
/-- the words whose mark is true -/
def pick : List Str → List Bool → List Str
  | x :: xs, true :: bs => x :: pick xs bs
  | _ :: xs, false :: bs => pick xs bs
  | _, _ => []
def nameWords : Str := "land script amount number facts text late undo value"
def nameOf (bs : List Bool) : Str := Txt.join " " (pick (Txt.split nameWords " ") bs)
theorem pick_step : ∀ {xs : List Str} {bs : List Bool} {i : Nat} {x : Str} {b : Bool}, xs[i]? = some x → bs[i]? = some b → pick (xs.take (i + 1)) (bs.take (i + 1)) = pick (xs.take i) (bs.take i) ++ (if b = true then [x] else [])
  | [], _, _, _, _, h, _ => by simp at h
  | _ :: _, [], _, _, _, _, h => by simp at h
  | x :: xs, b :: bs, 0, y, c, h, h' => by
    simp at h h'
    subst h h'
    cases b <;> simp [pick]
  | x :: xs, b :: bs, i + 1, y, c, h, h' => by
    have ih := pick_step (xs := xs) (bs := bs) (i := i) (x := y) (b := c) (by simpa using h) (by simpa using h')
    cases b
    · show pick (xs.take (i + 1)) (bs.take (i + 1)) = _
      rw [ih]; rfl
    · show x :: pick (xs.take (i + 1)) (bs.take (i + 1)) = _
      rw [ih]; rfl
section
variable {X : Cx} {D a : Addr} {oe : Obj} {σ : L2.St} {H : Hp} {Q : VK}
/-- the walk of the comprehension -/
theorem walk_zipP {K : PySem.W.Frag} {la lb : Addr} {xs ys : List V} (hl : xs.length = ys.length) : Walk (ItzP K la lb) xs.length (fun H => SqL K H la xs ∧ SqL K H lb ys) (YPair (fun i => xs[i]?) (fun i => ys[i]?)) := by
  have w := walk_zip (K := K) (a := la) (b := lb) (xs := xs) (ys := ys) (n := xs.length) (by omega)
  exact ⟨w.goes, fun H q => ⟨xs, ys, q.1, q.2, Nat.le_refl _⟩, w.yields⟩
end
/-! ### its text -/
def isC (c : Str) : Expr → Bool
  | .Call (.Name i _) [.Name v _, .Name y _] [] _ => decide (i = "isinstance") && decide (v = "e") && decide (y = c)
  | _ => false
def neN : List Str := ["e", "some", "words", "word", "good"]
def neOwn : List (Str × Nat) := [("word", 3), ("good", 4)]
def neB : List Stmt → Option Scope
  | [.Assign [.Name s1 _] (.List [a1, a2, a3] _) _, .Assign [.Name s2 _] (.BinOp (.Name s3 _) .Add (.List [a4, a5, a6] _) _) _, .Assign [.Name s4 _] (.BinOp (.Name s5 _) .Add (.List [a7, a8, a9] _) _) _, .Assign [.Name w1 _] (.Constant (.str ws) _ _) _,
      .Return (some (.Call (.Attribute (.Constant (.str sp) _ _) jn ap) [.ListComp (.Name e1 _) [⟨.Tuple [.Name t1 _, .Name t2 _] _ _, .Call (.Name z _) [.Call (.Attribute (.Name w2 _) sn ap2) [.Constant (.str sp2) _ _] [] cp2, .Name s6 _] [] _, [.Name t3 _], y⟩] scope _] [] cp)) _] =>
    grd (isC "InvalidLand" a1 && isC "InvalidScript" a2 && isC "InvalidAmount" a3 && isC "InvalidNumber" a4 && isC "InvalidFacts" a5 && isC "InvalidText" a6 && isC "TooLate" a7 && isC "NothingToUndo" a8 && isC "ValueError" a9 &&
      decide (s1 = "some") && decide (s2 = "some") && decide (s3 = "some") && decide (s4 = "some") && decide (s5 = "some") && decide (s6 = "some") && decide (w1 = "words") && decide (w2 = "words") && decide (ws = nameWords) && decide (sp = " ") && decide (sp2 = " ") && decide (jn = "join") && decide (sn = "split") &&
      decide (e1 = "word") && decide (t1 = "word") && decide (t2 = "good") && decide (t3 = "good") && decide (z = "zip") && (y == 0) && (ap.endLine == cp.line) && (ap2.endLine == cp2.line)) (some scope)
  | _ => none
/-- the scope of the def, of the block within -/
def neSc (sc scope : Scope) : Bool := decide (sc.names.lookup ("e" : Str) = some .local) && decide (sc.names.lookup ("some" : Str) = some .local) && decide (sc.names.lookup ("words" : Str) = some .local) && blkC neN sc scope neOwn && decide ((relS scope sc).names.lookup ("word" : Str) = some .local) && decide ((relS scope sc).names.lookup ("good" : Str) = some .local) &&
  ownCls.all (fun c => glB sc c && !(c == ("__debug__" : Str))) && glB sc "ValueError" && glB sc "isinstance" && glB sc "zip"
section
variable {X : Cx} {D a : Addr} {oe : Obj} {bs : List Bool}
theorem isC_own (Nm : Named X D bs) (hp : (a, oe) ∈ X.pn) (hz : Zc (.ref D) none oe) (hf : ∃ vs, oe.data = .fields vs) (h0 : X.N[0]? = some ("e" : Str)) (hv : Vis X.env.scope "e") (hgi : Gl X "isinstance") {i : Nat} {c : Str} {e : Expr} (hi : ownCls[i]? = some c) (hgc : Gl X c) (hd : (c == ("__debug__" : Str)) = false) (h : isC c e = true) :
    ∃ b, bs[i]? = some b ∧ PE X e (tIs a b) := by
  obtain ⟨Cc, b, h1, h2, h3⟩ := Nm.own i c hi
  refine ⟨b, h2, ?_⟩
  unfold isC at h
  split at h
  · simp only [Bool.and_eq_true, decide_eq_true_eq] at h
    obtain ⟨⟨rfl, rfl⟩, rfl⟩ := h
    exact is_own Nm.C hp hz hf h0 hv hgi Nm.mi hgc h1 h3 hd
  · cases h
theorem isC_ve (Nm : Named X D bs) (hp : (a, oe) ∈ X.pn) (hz : Zc (.ref D) none oe) (hf : ∃ vs, oe.data = .fields vs) (h0 : X.N[0]? = some ("e" : Str)) (hv : Vis X.env.scope "e") (hgi : Gl X "isinstance") {e : Expr} (hgc : Gl X "ValueError") (h : isC "ValueError" e = true) :
    ∃ b, bs[8]? = some b ∧ PE X e (tIs a b) := by
  obtain ⟨b, h2, h3⟩ := Nm.ve
  refine ⟨b, h2, ?_⟩
  unfold isC at h
  split at h
  · simp only [Bool.and_eq_true, decide_eq_true_eq] at h
    obtain ⟨⟨rfl, rfl⟩, rfl⟩ := h
    exact is_ve Nm.C hp hz hf h0 hv hgi Nm.mi hgc Nm.mv h3
  · cases h
theorem nine {bs : List Bool} (h : bs.length = 9) {b0 b1 b2 b3 b4 b5 b6 b7 b8 : Bool} (h0 : bs[0]? = some b0) (h1 : bs[1]? = some b1) (h2 : bs[2]? = some b2) (h3 : bs[3]? = some b3) (h4 : bs[4]? = some b4) (h5 : bs[5]? = some b5) (h6 : bs[6]? = some b6) (h7 : bs[7]? = some b7) (h8 : bs[8]? = some b8) : bs = [b0, b1, b2, b3, b4, b5, b6, b7, b8] := by
  match bs, h with
  | [c0, c1, c2, c3, c4, c5, c6, c7, c8], _ =>
    simp at h0 h1 h2 h3 h4 h5 h6 h7 h8
    subst h0 h1 h2 h3 h4 h5 h6 h7 h8
    rfl
theorem words9 : (Txt.split nameWords " ").length = 9 ∧ (Txt.split nameWords " ").map (fun (x : Str) => x.length) = [4, 6, 6, 6, 5, 4, 4, 4, 5] := by decide +kernel
theorem pick_len : ∀ (xs : List Str) (bs : List Bool), (pick xs bs).length ≤ xs.length ∧ ((pick xs bs).map (fun (x : Str) => x.length)).sum ≤ (xs.map (fun (x : Str) => x.length)).sum
  | [], bs => by simp [pick]
  | x :: xs, [] => by simp [pick]
  | x :: xs, b :: bs => by
    obtain ⟨h1, h2⟩ := pick_len xs bs
    cases b
    · show (pick xs bs).length ≤ xs.length + 1 ∧ ((pick xs bs).map (fun (x : Str) => x.length)).sum ≤ x.length + (xs.map (fun (x : Str) => x.length)).sum
      omega
    · show (pick xs bs).length + 1 ≤ xs.length + 1 ∧ x.length + ((pick xs bs).map (fun (x : Str) => x.length)).sum ≤ x.length + (xs.map (fun (x : Str) => x.length)).sum
      omega
abbrev rJoin (K : PySem.W.Frag) : V → List V → Hp → VK → Prop := fun x xs H Q => ∃ a p, ∃ ys : List Str, x = .str a ∧ xs = [.ref p] ∧ (SqL K H p (ys.map V.str) ∨ SqT K H p (ys.map V.str)) ∧ (ys.map (·.length)).sum + ys.length * a.length ≤ 16777216 ∧ Q (.str (Txt.join a ys)) H
abbrev rSplit : V → List V → Hp → VK → Prop := fun x xs H Q => ∃ a b, x = .str a ∧ xs = [.str b] ∧ (b.length == 0) = false ∧ a.length + 2 ≤ sizeLine ∧ rNewStrs (Txt.split a b) H Q
/-- the def's last row -/
def neLast (K : PySem.W.Frag) : TS := tRet (tM1 (rJoin K) (L2.tC (.str " ")) (tLc (iZipP K (tCons (tM1 rSplit (tVar 2) (L2.tC (.str " "))) (tCons (tVar 1) tNil))) (gTup K 2 (gCons (gName 3) (gCons (gName 4) gNil))) (tB (tVar 4)) (tVar 3) [3, 4]))
theorem ne_last {K : PySem.W.Frag} {bs : List Bool} {σ : L2.St} {G : Hp} {Q : VK} {nx : L2.St → Hp → Prop} {q5 : Addr} (h9 : bs.length = 9) (h1 : σ[1]? = some (some (V.ref q5))) (h2 : σ[2]? = some (some (V.str nameWords))) (hq : G q5 = some (.lst (bs.map V.bl))) (hl : σ.length = 5)
    (hQ : ∀ H', Same G H' → Q (.str (nameOf bs)) H') : neLast K { nx := nx, rt := Q } σ G := by
  have w9 := words9.1
  refine ⟨⟨" ", rfl⟩, .str nameWords, h2, ⟨nameWords, rfl⟩, nameWords, " ", rfl, rfl, by decide +kernel, by decide +kernel, fun q6 hq6 => ⟨.ref q5, h1, q6, q5, _, _, rfl, SqL.of upd_same, SqL.of (same_new hq6 _ _ hq), fun Dn hDn => ?_⟩⟩
  have hlen : ((Txt.split nameWords " ").map V.str).length = (bs.map V.bl).length := by rw [List.length_map, List.length_map, w9, h9]
  have s6 : Same G (upd G q6 (.lst ((Txt.split nameWords " ").map V.str))) := same_new hq6
  have w3 : ∀ {τ : L2.St} {x y : Option V}, wipe ((τ.set 3 x).set 4 y) [3, 4] = wipe τ [3, 4] := fun {τ x y} => by
    show ((((τ.set 3 x).set 4 y).set 4 none).set 3 none) = ((τ.set 4 none).set 3 none)
    rw [List.set_set, List.set_comm _ _ (show (3 : Nat) ≠ 4 by decide), List.set_set]
  have w4 : wipe (wipe σ [3, 4]) [3, 4] = wipe σ [3, 4] := by
    show ((((σ.set 4 none).set 3 none).set 4 none).set 3 none) = ((σ.set 4 none).set 3 none)
    rw [List.set_comm _ _ (show (3 : Nat) ≠ 4 by decide), List.set_set, List.set_set]
  refine lc_it (g := gTup K 2 (gCons (gName 3) (gCons (gName 4) gNil))) (tt := tB (tVar 4)) (te := tVar 3) (vs := [3, 4]) (σ := σ) (D := Dn) (walk_zipP (K := K) (la := q6) (lb := q5) hlen)
    (fun i H' => Same (upd G q6 (.lst ((Txt.split nameWords " ").map V.str))) H' ∧ ∃ acc, H' Dn = some (.lst (acc.map V.str)) ∧ acc = pick ((Txt.split nameWords " ").take i) (bs.take i)) ⟨same_new hDn, [], upd_same, rfl⟩
    (fun i H' _ ⟨s, _⟩ => ⟨SqL.of (s _ _ upd_same), SqL.of (s _ _ (s6 _ _ hq))⟩) ?_ ?_
  · rintro i x H2 H3 hi ⟨s2, acc, hacc, hpick⟩ ⟨T, u, v, rfl, hT, rfl, hu, hv⟩
    simp only at hu hv
    rw [List.getElem?_map] at hu hv
    obtain ⟨wd, hwd, rfl⟩ := Option.map_eq_some_iff.mp hu
    obtain ⟨b, hb, rfl⟩ := Option.map_eq_some_iff.mp hv
    refine ⟨T, [.str wd, .bl b], rfl, SqT.of upd_same, rfl, .str wd, [.bl b], rfl, .bl b, [], rfl, rfl, ?_⟩
    refine ⟨w3.trans w4, .bl b, ?_, b, rfl, ?_⟩
    · rw [List.getElem?_set, if_pos rfl, if_pos (by rw [List.length_set, wipe_length]; omega)]
    · have ha : (upd H2 T (.tup [.str wd, .bl b])) Dn = some (.lst (acc.map V.str)) := same_new hT _ _ hacc
      have sT : Same (upd G q6 (.lst ((Txt.split nameWords " ").map V.str))) (upd H2 T (.tup [.str wd, .bl b])) := fun c o e => same_new hT _ _ (s2 c o e)
      have st := pick_step hwd hb
      cases b with
      | false =>
        refine ite_ff ⟨sT, acc, ha, ?_⟩
        rw [st, hpick]
        simp
      | true =>
        have hle : acc.length ≤ 9 := by
          rw [hpick]
          have := (pick_len ((Txt.split nameWords " ").take i) (bs.take i)).1
          rw [List.length_take] at this
          omega
        refine ite_tt ⟨.str wd, ?_, acc.map V.str, ha, by rw [List.length_map, sizeLine_eq]; omega, fun c o e => ?_, acc ++ [wd], ?_, ?_⟩
        · rw [List.getElem?_set, if_neg (by decide), List.getElem?_set, if_pos rfl, if_pos (by rw [wipe_length]; omega)]
        · have n : c ≠ Dn := fun z => by rw [z, hDn] at e; cases e
          rw [upd_ne n]
          exact sT c o e
        · rw [List.map_append]; exact upd_same
        · rw [st, hpick]
          simp
  · rintro H2 ⟨s2, acc, hacc, hpick⟩
    rw [List.length_map, List.take_length, List.take_of_length_le (by omega)] at hpick
    subst hpick
    obtain ⟨k1, k2⟩ := pick_len (Txt.split nameWords " ") bs
    refine ⟨" ", Dn, _, rfl, rfl, .inl (SqL.of hacc), ?_, hQ H2 fun c o e => s2 c o (s6 c o e)⟩
    have e1 : (Txt.split nameWords " ").map (fun (x : Str) => x.length) = [4, 6, 6, 6, 5, 4, 4, 4, 5] := words9.2
    rw [e1] at k2
    have e2 : ([4, 6, 6, 6, 5, 4, 4, 4, 5] : List Nat).sum = 44 := by decide
    rw [e2] at k2
    have e3 : ((" " : Str)).length = 1 := by decide +kernel
    rw [e3]
    omega
theorem ne_ok {X : Cx} {D a : Addr} {oe : Obj} {bs : List Bool} {body : List Stmt} {sc2 : Scope} (h : neB body = some sc2) (hs : neSc X.env.scope sc2 = true) (hN : X.N = neN) (Nm : Named X D bs) (h9 : bs.length = 9) (hot : Hot1 X.A (a, oe)) (hp : (a, oe) ∈ X.pn) (hz : Zc (.ref D) none oe) (hf : ∃ vs, oe.data = .fields vs) :
    ∃ t, PSs X body t ∧ ∀ (σ : L2.St) (H : Hp) (Q : VK) (nx : L2.St → Hp → Prop), σ[0]? = some (some (.ref a)) → σ.length = 5 → (∀ H', Same H H' → Q (.str (nameOf bs)) H') → t { nx := nx, rt := Q } σ H := by
  unfold neB at h
  split at h
  · rename_i s1 _ a1 a2 a3 _ _ s2 _ s3 _ a4 a5 a6 _ _ _ s4 _ s5 _ a7 a8 a9 _ _ _ w1 _ ws _ _ _ sp _ _ jn ap e1 _ t1 _ t2 _ _ _ z _ w2 _ sn ap2 sp2 _ _ cp2 s6 _ _ t3 _ y scope _ cp _
    simp only [grd_some, Bool.and_eq_true, decide_eq_true_eq] at h
    obtain ⟨⟨⟨⟨⟨⟨⟨⟨⟨⟨⟨⟨⟨⟨⟨⟨⟨⟨⟨⟨⟨⟨⟨⟨⟨⟨⟨⟨⟨⟨k1, k2⟩, k3⟩, k4⟩, k5⟩, k6⟩, k7⟩, k8⟩, k9⟩, rfl⟩, rfl⟩, rfl⟩, rfl⟩, rfl⟩, rfl⟩, rfl⟩, rfl⟩, rfl⟩, rfl⟩, rfl⟩, rfl⟩, rfl⟩, rfl⟩, rfl⟩, rfl⟩, rfl⟩, rfl⟩, hy⟩, l1⟩, l2⟩, e⟩ := h
    cases e
    have hy := eq_of_beq hy
    subst hy
    simp only [neSc, Bool.and_eq_true, decide_eq_true_eq] at hs
    obtain ⟨⟨⟨⟨⟨⟨⟨⟨⟨c1, c2⟩, c3⟩, c4⟩, c5⟩, c6⟩, c7⟩, c8⟩, c9⟩, c10⟩ := hs
    have glo : ∀ c ∈ ownCls, Gl X c ∧ (c == ("__debug__" : Str)) = false := fun c hc => by
      have := List.all_eq_true.mp c7 c hc
      simp only [Bool.and_eq_true, Bool.not_eq_true'] at this
      exact ⟨glB_gl this.1, this.2⟩
    have gi : Gl X "isinstance" := glB_gl c9
    have gz : Gl X "zip" := glB_gl c10
    have gv : Gl X "ValueError" := glB_gl c8
    have nd : X.N.Nodup := by rw [hN]; decide
    have n0 : X.N[0]? = some ("e" : Str) := by rw [hN]; rfl
    have n1 : X.N[1]? = some ("some" : Str) := by rw [hN]; rfl
    have n2 : X.N[2]? = some ("words" : Str) := by rw [hN]; rfl
    have n3 : X.N[3]? = some ("word" : Str) := by rw [hN]; rfl
    have n4 : X.N[4]? = some ("good" : Str) := by rw [hN]; rfl
    have v0 : Vis X.env.scope "e" := .inl c1
    have own := fun {i : Nat} {c : Str} {e : Expr} (hi : ownCls[i]? = some c) (k : isC c e = true) => isC_own Nm hp hz hf n0 v0 gi hi (glo c (List.mem_of_getElem? hi)).1 (glo c (List.mem_of_getElem? hi)).2 k
    obtain ⟨b0, hb0, p0⟩ := own (i := 0) rfl k1
    obtain ⟨b1, hb1, p1⟩ := own (i := 1) rfl k2
    obtain ⟨b2, hb2, p2⟩ := own (i := 2) rfl k3
    obtain ⟨b3, hb3, p3⟩ := own (i := 3) rfl k4
    obtain ⟨b4, hb4, p4⟩ := own (i := 4) rfl k5
    obtain ⟨b5, hb5, p5⟩ := own (i := 5) rfl k6
    obtain ⟨b6, hb6, p6⟩ := own (i := 6) rfl k7
    obtain ⟨b7, hb7, p7⟩ := own (i := 7) rfl k8
    obtain ⟨b8, hb8, p8⟩ := isC_ve Nm hp hz hf n0 v0 gi gv k9
    have hbs := nine h9 hb0 hb1 hb2 hb3 hb4 hb5 hb6 hb7 hb8
    have pl : ∀ {e : Expr} {c : Str}, isC c e = true → plainE e = true := fun {e c} k => by
      cases e <;> first | rfl | (simp [isC] at k)
    have three := fun {x y z : Expr} {bx cx dx : Bool} (hx : PE X x (tIs a bx)) (hy : PE X y (tIs a cx)) (hz : PE X z (tIs a dx)) (px : plainE x = true) (py : plainE y = true) (pz : plainE z = true) => pa_cons hx (pa_cons hy (pa_cons hz pa_nil (star_plain pz)) (star_plain py)) (star_plain px)
    have bok : BlkOk X.N X.env.scope sc2 neOwn := by rw [hN]; exact blkOk_by c4
    have hwords := fun (q1 q2 : Pos) (k : Nat) => pe_split (X := X) (o := .Name "words" q1) (e := .Constant (.str " ") k q2) (apos := ap2) (pos := cp2) (pe_var (pos := q1) n2 (.inl c3)) (pe_str (j := k) (pos := q2)) rfl rfl l2
    have hzip := fun (q1 q2 q3 q4 q5 q6 : Pos) (k k2 : Nat) (es : List Expr) => pi_zipP (X := X) (elts := es) (kk := k2) (tpos := q6) (p := q4) (pos := q5) gz Nm.mz (pa_cons (hwords q1 q2 k) (pa_cons (pe_var (pos := q3) n1 (.inl c2)) pa_nil)) rfl rfl
    have hlc := fun (q1 q2 q3 q4 q5 q6 q7 q8 q9 q10 q11 : Pos) (k k2 : Nat) => pe_lcP (X := X) (elt := .Name "word" q7) (es := [.Name "word" q8, .Name "good" q9]) (k := k2) (n := 2) (tpos := q6) (ifs := [.Name "good" q10]) (scope := sc2) (own := neOwn) (pos := q11) hot hp nd (hzip q1 q2 q3 q4 q5 q6 k k2 _) bok
      (fun s H C cl fp => pgs_cons (pg_name (i := 3) nd n3 (.inl c5) (.inr c5)) (pgs_cons (pg_name (i := 4) nd n4 (.inl c6) (.inr c6)) pgs_nil)) (fun env => rfl) (fun env => rfl)
      (fun s H C cl fp => pts_one (pt_val (pe_var (pos := q10) n4 (.inl c6)))) (fun s H C cl fp => pe_var (pos := q7) n3 (.inl c5)) (fun x => rfl)
    refine ⟨_, pss_cons (ps_set nd n1 (.inl c2) (pe_lst (three p0 p1 p2 (pl k1) (pl k2) (pl k3))) rfl (.inr c2)) (pss_cons (ps_set nd n1 (.inl c2) (pe_op op_cat (pe_var n1 (.inl c2)) (pe_lst (three p3 p4 p5 (pl k4) (pl k5) (pl k6)))) rfl (.inr c2))
      (pss_cons (ps_set nd n1 (.inl c2) (pe_op op_cat (pe_var n1 (.inl c2)) (pe_lst (three p6 p7 p8 (pl k7) (pl k8) (pl k9)))) rfl (.inr c2)) (pss_cons (ps_set nd n2 (.inl c3) pe_str rfl (.inr c3)) (pss_one (ps_ret (pe_join pe_str (hlc _ _ _ _ _ _ _ _ _ _ _ _ _) rfl rfl l1)))))), ?_⟩
    intro σ H Q nx h0 hl hQ
    have at0 : ∀ {τ : L2.St} {i : Nat} {v : Option V}, i ≠ 0 → τ[0]? = some (some (V.ref a)) → (τ.set i v)[0]? = some (some (V.ref a)) := fun {τ i v} n h => by rw [List.getElem?_set, if_neg n]; exact h
    have up : ∀ {G : Hp} {q b : Addr} {o u : HO}, G q = none → G b = some u → upd G q o b = some u := fun {G q b o u} hq hb => same_new hq _ _ hb
    refine ⟨h0, h0, h0, show 3 ≤ sizeLine by decide, fun q1 hq1 => ?_⟩
    have h0 := at0 (i := 1) (v := some (.ref q1)) (by decide) h0
    refine ⟨.ref q1, by rw [List.getElem?_set, if_pos rfl, if_pos (by omega)], h0, h0, h0, show 3 ≤ sizeLine by decide, fun q2 hq2 => ⟨q1, q2, _, _, rfl, rfl, up hq2 upd_same, upd_same, show 3 + 3 ≤ sizeLine by decide, fun q3 hq3 => ?_⟩⟩
    have h0 := at0 (i := 1) (v := some (.ref q3)) (by decide) h0
    refine ⟨.ref q3, by rw [List.getElem?_set, if_pos rfl, if_pos (by rw [List.length_set]; omega)], h0, h0, h0, show 3 ≤ sizeLine by decide, fun q4 hq4 => ⟨q3, q4, _, _, rfl, rfl, up hq4 upd_same, upd_same, show 6 + 3 ≤ sizeLine by decide, fun q5 hq5 => ?_⟩⟩
    obtain ⟨τ, hσ⟩ : ∃ τ, ((σ.set 1 (some (V.ref q1))).set 1 (some (V.ref q3))).set 1 (some (V.ref q5)) = τ := ⟨_, rfl⟩
    have hτl : τ.length = 5 := by rw [← hσ, List.length_set, List.length_set, List.length_set]; exact hl
    have hτ1 : τ[1]? = some (some (V.ref q5)) := by rw [← hσ, List.getElem?_set, if_pos rfl, if_pos (by rw [List.length_set, List.length_set]; omega)]
    have e9 : ([V.bl b0, V.bl b1, V.bl b2] ++ [V.bl b3, V.bl b4, V.bl b5]) ++ [V.bl b6, V.bl b7, V.bl b8] = bs.map V.bl := by rw [hbs]; rfl
    obtain ⟨G, hG⟩ : ∃ G, upd (upd (upd (upd (upd H q1 (.lst [V.bl b0, V.bl b1, V.bl b2])) q2 (.lst [V.bl b3, V.bl b4, V.bl b5])) q3 (.lst ([V.bl b0, V.bl b1, V.bl b2] ++ [V.bl b3, V.bl b4, V.bl b5]))) q4 (.lst [V.bl b6, V.bl b7, V.bl b8])) q5 (.lst (([V.bl b0, V.bl b1, V.bl b2] ++ [V.bl b3, V.bl b4, V.bl b5]) ++ [V.bl b6, V.bl b7, V.bl b8])) = G := ⟨_, rfl⟩
    have sm : Same H G := fun b o e => by rw [← hG]; exact up hq5 (up hq4 (up hq3 (up hq2 (up hq1 e))))
    have hq : G q5 = some (.lst (bs.map V.bl)) := by rw [← hG, ← e9]; exact upd_same
    have hτ2 : (τ.set 2 (some (V.str nameWords)))[1]? = some (some (V.ref q5)) := by rw [List.getElem?_set, if_neg (by decide)]; exact hτ1
    have hτw : (τ.set 2 (some (V.str nameWords)))[2]? = some (some (V.str nameWords)) := by rw [List.getElem?_set, if_pos rfl, if_pos (by omega)]
    have go := ne_last (K := X.K) (nx := nx) h9 hτ2 hτw hq (by rw [List.length_set]; exact hτl) fun H' s => hQ H' fun b o e => s b o (sm b o e)
    subst hσ hG
    exact go
  · cases h
end
end PD
set_option linter.all false
set_option maxRecDepth 100000
set_option maxHeartbeats 2000000
/-! Lambdas handed to a def, exceptions with context none. -/
namespace PD
open PySem PySem.Spec PyProof.Rows L2 LamX
/-- the context of the def that got it -/
abbrev gotX (X : Cx) (Ng : List Str) (x : Str) (sg : Scope) (g : Addr) (cdg : Value) (s : Shared) (H : Hp) : Cx := cxOf C8.CX0 X.prog X.w X.K X.mg X.base Ng x sg g cdg X.A X.stack s H C8.E0
section
variable {X : Cx} {pins : List (Addr × Obj)} {σ : L2.St} {H : Hp} {s : Shared}
theorem act_N {Ng : List Str} {x : Str} {sg : Scope} {g f c' : Addr} {cdg pm ctv : Value} {params : Arguments} {body : Expr} {scope : Scope} {k : Nat} {a : Str} {pn : List (Addr × Obj)} {xe : Value → Shared → Prop} {W : WX} {E : XK} {tb : TE} {p1 p2 : Pos}
    (I : Inv X pins σ H s) (L : LamS X.env.scope scope) (hf : s.heap.get? f = some (PySem.W.kla_obj "<lambda>" (X.env.qual ++ "<lambda>") params body scope (cloFrom X.env.cells scope.names []) pm c' ctv)) (hfn : H f = none) (hfr : f ∉ frs X.stack)
    (hbind : bindArgs (PySem.W.kla_fn "<lambda>" (X.env.qual ++ "<lambda>") params body scope (cloFrom X.env.cells scope.names []) pm (.ref c') ctv) ⟨[], []⟩ = pure [])
    (tk : L2N.Takes ((gotX X Ng x sg g cdg s H).tr pn xe) W) (hW : ∀ cls d (τ : L2.St) H', τ.length = Ng.length → E cls d H' → W cls d τ H') (hr : Room (k + 1) (X.A.deeper (envOfC x sg s.heap.objs.size g cdg)))
    (hbody : ∀ (A : Around) (outer : List Env) (s : Shared) (H : Hp), Room k (A.deeper (lamEnv X scope s.heap.objs.size f c')) → PE (lamN X A outer s H E scope f c') body tb)
    (hN : Ng[0]? = some a) (hv : Vis sg a) (hd : (a == ("__debug__" : Str)) = false) (hcd : (a == ("__classdict__" : Str)) = false) :
    PE ((gotX X Ng x sg g cdg s H).tr pn xe) (.Call (.Name a p1) [] [] p2) (fun τ HZ Q => τ[0]? = some (some (.ref f)) ∧ HZ c' = some (CodeO c' (X.env.qual ++ "<lambda>")) ∧ tb σ HZ Q) := by
  refine ⟨fun pinsZ sZ τ HZ Q IZ ⟨hs, hc, ht⟩ => wpAny_Call_Name_kw (thn ((pe_var (pos := p1) (i := 0) hN hv hd hcd).run pinsZ sZ τ HZ (fun v G => v = .ref f ∧ G = HZ) IZ ⟨.ref f, hs, rfl, rfl⟩) fun u s1 ⟨v, H1, I1, r1, q1⟩ => ?_)⟩
  obtain ⟨ev, eH⟩ := q1
  subst ev
  rw [eH] at I1
  obtain rfl : u = Value.ref f := r1
  have of1 : s1.heap.get? f = some (PySem.W.kla_obj "<lambda>" (X.env.qual ++ "<lambda>") params body scope (cloFrom X.env.cells scope.names []) pm c' ctv) := I1.base.keep f _ hf hfn hfr (fun z => nomatch (show f ∈ ([] : List Addr) from z))
  have un : Un (frs X.stack) [] H HZ s.heap s1.heap := I1.base
  obtain ⟨⟨oc, vs, t, hoc, hdc, hvc⟩, _, _⟩ := I1.hok c' _ hc
  refine PySem.W.callWith_F0 ⟨_, _, _, _, of1⟩ ?_
  have rc : codeAny (model X.prog X.w) (X.A.deeper (envOfC x sg s.heap.objs.size g cdg)) (.call (.ref f) ⟨[], []⟩) (CR (L2N.CX X.prog X.w) (envOfC x sg s.heap.objs.size g cdg :: X.stack) X.prog X.w HZ s1 Q E) s1 := by
    refine PySem.W.kla_callFunE hr.depth of1 rfl L.co L.gen rfl ⟨c', oc, vs, t, rfl, hoc, hdc, hvc⟩ ?_
    rw [hbind]
    refine wpAny_pure (wpAny_newFunctionEnv (fun y hy => (L.own y hy).2) (fun y hy => absurd hy (by simp)) (fun h1 hns hsb => ⟨I1.nolimit.fresh _ hsb, ?_⟩) L.kind)
    show codeAny _ _ (.expr body (lamEnv X scope s1.heap.objs.size f c')) _ _
    have J := (lam_start2 (f := f) (c' := c') (E := E) (tk := s1.toks + ([] : List (Str × Value)).length) I L I1.env0 hr.hd un hns fun b o e => hsb.extBut b o (Nat.ne_of_lt (Heap.lt_size e)) (Heap.get?_push_of_some _ e)).wish
      fun e s' => wpAny (model X.prog X.w) ((X.A.deeper (envOfC x sg s.heap.objs.size g cdg)).deeper (lamEnv X scope s1.heap.objs.size f c')) (leaving (lamEnv X scope s1.heap.objs.size f c') e) (fun _ s2 => L2N.CX X.prog X.w (envOfC x sg s.heap.objs.size g cdg :: X.stack) HZ s1 E e s2) (fun e2 s2 => L2N.CX X.prog X.w (envOfC x sg s.heap.objs.size g cdg :: X.stack) HZ s1 E e2 s2) s'
    refine PySem.W.kla_codeExpr (wpAny_mono ((hbody _ _ s1 HZ (hr.deeper _)).run [] _ _ HZ Q J ht) (fun v s' hq => ?_) fun e s' hq => hq)
    obtain ⟨w', H', J', rv, q⟩ := hq
    exact ⟨w', H', J'.os, J'.bare, J'.base, J'.hok, rv, q⟩
  have hx := fun (pins : List (Addr × Obj)) (σ : L2.St) (H : Hp) (s : Shared) (e : Value) (s' : Shared) (J : Inv ((gotX X Ng x sg g cdg _ _).tr pn xe) pins σ H s) (c : L2N.CX X.prog X.w _ H s E e s') => tk e s' (L2N.XE.of_call (E := E) J (fun cls d H' h => hW cls d σ H' J.len h) c)
  refine wpAny_call (codeAny_mono rc fun r s' hq => ?_)
  cases r with
  | error e => exact hx pinsZ τ HZ s1 e s' I1 hq
  | ok fl =>
    cases fl with
    | ret u => exact I1.after hq
    | next => exact False.elim hq
    | brk => exact False.elim hq
    | cont => exact False.elim hq
end
/-- what the def that calls it gives; B: what holds of it beforehand -/
def GivesN (X : Cx) (Ng : List Str) (x : Str) (sg : Scope) (g : Addr) (cdg : Value) (bg : List Stmt) (a q : Str) (k : Nat) (TT : (XK → Hp → VK → Prop) → Hp → VK → Prop) : Prop :=
  ∀ (f c' : Addr) (s : Shared) (H : Hp) (Q : VK) (tl : XK → Hp → VK → Prop), Room k (X.A.deeper (envOfC x sg s.heap.objs.size g cdg)) →
    (∀ (W : WX) (pn : List (Addr × Obj)) (xe : Value → Shared → Prop) (E : XK) (p1 p2 : Pos), L2N.Takes ((gotX X Ng x sg g cdg s H).tr pn xe) W → (∀ cls d (τ : L2.St) H', τ.length = Ng.length → E cls d H' → W cls d τ H') →
      PE ((gotX X Ng x sg g cdg s H).tr pn xe) (.Call (.Name a p1) [] [] p2) (fun τ HZ Q => τ[0]? = some (some (.ref f)) ∧ HZ c' = some (CodeO c' q) ∧ tl E HZ Q)) →
    H c' = some (CodeO c' q) → TT tl H Q → ∃ t, PSs (gotX X Ng x sg g cdg s H).nox bg t ∧ t { nx := fun _ H' => Q .non H', rt := Q } (L2.start Ng [.ref f]) H
section
variable {X : Cx}
theorem lamcall_N {T : List (Addr × Str)} {TT : (XK → Hp → VK → Prop) → Hp → VK → Prop} {x a : Str} {g c P : Addr} {k : Nat} {pg : Arguments} {bg : List Stmt} {sg : Scope} {dV kV doc pm cdv ct oc : Value} {an od : Option Addr} {osl : Array (Option Value)} {Ng : List Str}
    {params : Arguments} {body : Expr} {scope : Scope} {t : XK → TE} {p lpos pos : Pos} (hg : Gl X x) (hm : X.mg x = some (.ref g)) (hk : PySem.W.keepIn X.K (.ref g) = true)
    (lk : X.K.lookup g = some ⟨oc, od, .func (PySem.W.fnOf x x pg bg sg dV kV doc pm an cdv ct), osl⟩) (hcg : PySem.W.codeIn X.K cdv x = true) (hb : L2.Binds X.K (PySem.W.fnOf x x pg bg sg dV kV doc pm an cdv ct) [a] []) (Sg : FnScope Ng [a] sg) (hNg : Ng[0]? = some a) (hva : Vis sg a)
    (hG : GivesN X Ng x sg g cdv bg a (X.env.qual ++ "<lambda>") (k + 1) TT) (TB : TabB X.base X.mg c P) (hcode : X.env.code = .ref c) (hmT : (P, X.env.qual ++ "<lambda>") ∈ T) (hu : ∀ p ∈ T, p.1 = P → p.2 = X.env.qual ++ "<lambda>") (hr : Room (k + 2) X.A) (L : LamS X.env.scope scope)
    (hdef : defaultsOf params X.env = ([], [])) (hbind : ∀ (q : Str) (cl : List (Str × Addr)) (pm cv ctv : Value), bindArgs (PySem.W.kla_fn "<lambda>" q params body scope cl pm cv ctv) ⟨[], []⟩ = pure [])
    (hbody : ∀ (A : Around) (outer : List Env) (s : Shared) (H : Hp) (E : XK) (f c' : Addr), Room k (A.deeper (lamEnv X scope s.heap.objs.size f c')) → PE (lamN X A outer s H E scope f c') body (t E))
    (hdb : (x == ("__debug__" : Str)) = false) (hd : (a == ("__debug__" : Str)) = false) (hcd : (a == ("__classdict__" : Str)) = false) : PE X (.Call (.Name x p) [.Lambda params body scope lpos] [] pos) (tLam T TT t) := by
  refine ⟨fun pins s σ H Q I ⟨hT, h⟩ => wpAny_Call_Name_kw (ld_glob I hg hm (PySem.W.callWith_K (h₀ := X.base) I.ok.mod.kin hk ?_ (by rfl) (by rfl)) hdb)⟩
  show wpAny _ _ (spliced ((false, eval (.Lambda params body scope lpos) X.env) :: backTo pos (starEach [] X.env))) _ _ s
  refine Calls.spliced_cons (lam_make2 I TB hcode hmT hu hT hdef (L.has I.ok) fun f c' pm' ctv H1 s' I1 eN T1 hf hfn hfr hco => Calls.spliced_nil ⟨I1.kIn, ?_⟩)
  have rc : codeAny (model X.prog X.w) X.A (.call (.ref g) ⟨[.ref f], []⟩) (CR C8.CX0 X.stack X.prog X.w H1 s' Q C8.E0) s' := by
    refine run_ofS (N := Ng) (ps := [a]) (us := [.ref f]) (vs := [.ref f]) lk hcg Sg hr I1.env0 (hb s' [.ref f] I1.kIn rfl) (.cons rfl .nil) rfl fun hr' => ?_
    obtain ⟨t', ht', hq'⟩ := hG f c' s' H1 Q (fun E H' Q' => t E σ H' Q') hr' (fun W pn xe E p1 p2 tk hW => act_N I1 L hf hfn hfr (hbind _ _ _ _ _) tk hW hr' (fun A outer s H hr2 => hbody A outer s H E f c' hr2) hNg hva hd hcd) hco (h H1 eN T1)
    exact ⟨t', ht'.nox, hq'⟩
  refine wpAny_call (codeAny_mono rc fun r s2 hq => ?_)
  cases r with
  | error e => exact (show False from hq).elim
  | ok fl =>
    cases fl with
    | ret u => exact I1.after hq
    | next => exact False.elim hq
    | brk => exact False.elim hq
    | cont => exact False.elim hq
end
end PD
set_option linter.all false
set_option maxRecDepth 100000
set_option maxHeartbeats 2000000
/-! The law's def that names the error of what it is handed. -/
namespace PD
open PySem PySem.Spec PyProof.Rows L2 LamX HotX L2H
theorem takesN0 {X : Cx} : L2N.Takes X (fun _ _ _ _ => False) := fun _ _ x => by
  obtain ⟨_, _, _, _, _, _, _, _, _, _, _, _, _, _, _, _, z⟩ := x
  exact z.elim
/-- the def that names a caught error, as the other def finds it -/
structure NeDef (K : PySem.W.Frag) (mg : Str → Option Value) (x : Str) : Prop where
  ex : ∃ (f oc cdv dV kV doc pm ct : Value) (fa : Addr) (od an : Option Addr) (osl : Array (Option Value)) (params : Arguments) (body : List Stmt) (scope sc2 : Scope), f = .ref fa ∧ mg x = some f ∧ PySem.W.keepIn K f = true ∧
    K.lookup fa = some ⟨oc, od, .func (PySem.W.fnOf x x params body scope dV kV doc pm an cdv ct), osl⟩ ∧ PySem.W.codeIn K cdv x = true ∧ L2.Binds K (PySem.W.fnOf x x params body scope dV kV doc pm an cdv ct) ["e"] [] ∧ FnScope neN ["e"] scope ∧ neB body = some sc2 ∧ neSc scope sc2 = true
section
variable {X : Cx} {a D : Addr} {oe : Obj} {bs : List Bool} {pn : List (Addr × Obj)}
/-- its call in the suite -/
theorem pe_ne {k i : Nat} {x : Str} {cls : Value} {d : Option Addr} {p1 p2 pos : Pos} (nd : NeDef X.K X.mg x) (hg : Gl X x) (hr : RoomH (k + 1) X.A) (hi : X.N[i]? = some ("e" : Str)) (hv : Vis X.env.scope "e") (hz : L2N.Zn cls d oe) (hf : ∃ vs, oe.data = .fields vs) (hdb : (x == ("__debug__" : Str)) = false) :
    PE (X.suite a ((a, oe) :: pn)) (.Call (.Name x p1) [.Name "e" p2] [] pos) (fun σ H Q => σ[i]? = some (some (.ref a)) ∧ d = none ∧ (∃ D bs, cls = .ref D ∧ Named X D bs ∧ bs.length = 9 ∧ ∀ H', Same H H' → Q (.str (nameOf bs)) H')) := by
  refine ⟨fun pins s σ H Q I ⟨h0, hd, D, bs, hcls, Nm, h9, hQ⟩ => ?_⟩
  subst hd hcls
  obtain ⟨f, oc, cdv, dV, kV, doc, pm, ct, fa, od, an, osl, params, body, scope, sc2, rfl, hm, hk, lk, hcd, hb, S, hB, hS⟩ := nd.ex
  have hot : Hot1 (X.suite a ((a, oe) :: pn)).A (a, oe) := by
    obtain ⟨vs, hvs⟩ := hf
    exact ⟨rfl, vs, hvs, hz.2.2 vs hvs⟩
  refine wpAny_Call_Name_kw (ld_glob I hg hm ?_ hdb)
  refine PySem.W.callWith_K (h₀ := X.base) I.ok.mod.kin hk (thn ((pa_cons (pe_var (X := X.suite a ((a, oe) :: pn)) (i := i) hi hv) pa_nil).run pos pins s σ H (fun vs H' => vs = [.ref a] ∧ H' = H) I ⟨.ref a, h0, rfl, rfl⟩) fun us s1 ⟨vs, H1, I1, r, q, eH⟩ => ⟨I1.kIn, ?_⟩) (by rfl) (by rfl)
  subst q eH
  refine run_hotP (X := X.suite a ((a, oe) :: pn)) (CX := C8.CX0) (E := C8.E0) (N := neN) (ps := ["e"]) (k := k) (p := (a, oe)) lk hcd S ⟨hr.dp, hr.un⟩ hot List.mem_cons_self hb (fun e s' z => z) I1 r rfl fun hr' => ?_
  obtain ⟨t, ht, hq⟩ := ne_ok (X := cxH C8.CX0 X.prog X.w X.K X.mg X.base neN x scope fa cdv (X.A.mark (some (.ref a))) X.stack s1 H1 C8.E0 (a, oe)) (bs := bs) (D := D) hB hS rfl ⟨Nm.C, Nm.own, Nm.ve, Nm.mv, Nm.mi, Nm.mz⟩ h9 hot List.mem_cons_self hz.zc hf
  exact ⟨t, ht, hq _ _ _ _ rfl rfl hQ⟩
end
/-- try: call() / except RainError as e: return named(e) / return '' -/
def leB (a e r n : Str) : List Stmt → Bool
  | [.Try [.Expr (.Call (.Name a1 _) [] [] _) _] [.ExceptHandler (some (.Name r1 _)) (some e1) [.Return (some (.Call (.Name n1 _) [.Name e2 _] [] _)) _] _] [] [] _, .Return (some (.Constant (.str z) _ _)) _] =>
    decide (a1 = a) && decide (r1 = r) && decide (e1 = e) && decide (n1 = n) && decide (e2 = e) && decide (z = ("" : Str))
  | _ => false
/-- what the def tells of a call: of its error -/
def TErr (X : Cx) (RE : Addr) : (XK → Hp → VK → Prop) → Hp → VK → Prop := fun tl H Q =>
  tl (fun cls d H' => PySem.W.exmOne X.K cls (.ref RE) = some true ∧ d = none ∧ ∃ D bs, cls = .ref D ∧ Named X D bs ∧ bs.length = 9 ∧ ∀ H2, Same H' H2 → Q (.str (nameOf bs)) H2) H (fun _ H' => Q (.str "") H')
theorem err_gives {X : Cx} {x q r n : Str} {sg : Scope} {g RE : Addr} {cdg : Value} {k : Nat} {bg : List Stmt} (hB : leB "call" "e" r n bg = true) (nd : NeDef X.K X.mg n) (hgr : sg.names.lookup r = some .globalImplicit) (hmr : X.mg r = some (.ref RE)) (hgn : sg.names.lookup n = some .globalImplicit)
    (hle : sg.names.lookup ("e" : Str) = some .local) (hdr : (r == ("__debug__" : Str)) = false) (hdn : (n == ("__debug__" : Str)) = false) : GivesN X ["call", "e"] x sg g cdg bg "call" q (k + 1) (TErr X RE) := by
  intro f c' s H Q tl hr act hc h
  unfold leB at hB
  split at hB
  · simp only [Bool.and_eq_true, decide_eq_true_eq] at hB
    obtain ⟨⟨⟨⟨⟨k1, k2⟩, k3⟩, k4⟩, k5⟩, k6⟩ := hB
    subst k1 k2 k3 k4 k5 k6
    refine ⟨_, pss_cons (L2N.ps_try_as (X := (gotX X ["call", "e"] x sg g cdg s H).nox) (n := ("e" : Str)) (c := .ref RE) (i := 1) (Wout := fun _ _ _ _ => False)
      (tb := fun W D σ H' => ∃ E : XK, (∀ cls d (τ : L2.St) H', τ.length = 2 → E cls d H' → W cls d τ H') ∧ tDrop (fun τ HZ Q => τ[0]? = some (some (.ref f)) ∧ HZ c' = some (CodeO c' q) ∧ tl E HZ Q) D σ H')
      (ts := fun a cls d => tRet (fun σ H Q => σ[1]? = some (some (.ref a)) ∧ d = none ∧ (∃ D bs, cls = .ref D ∧ Named X D bs ∧ bs.length = 9 ∧ ∀ H', Same H H' → Q (.str (nameOf bs)) H')))
      rfl rfl (by show (["call", "e"] : List Str).Nodup; decide) rfl hle ⟨hgr, hdr, .inl hmr⟩ takesN0 (fun W pn xe tk _ => ?_) (fun a oe cls d pn hz hf => ?_)) (pss_one (ps_ret pe_str)), ?_⟩
    · refine ⟨fun pins s' σ H' D I h' => ?_⟩
      obtain ⟨E, hW, h1⟩ := h'
      exact (pss_one (ps_expr (act W pn xe E _ _ tk hW))).run pins s' σ H' D I h1
    · refine pss_one (ps_ret ?_)
      have hp := fun (p1 p2 pos : Pos) => pe_ne (X := (gotX X ["call", "e"] x sg g cdg s H).nox) (a := a) (oe := oe) (pn := pn) (k := k) (i := 1) (cls := cls) (d := d) (p1 := p1) (p2 := p2) (pos := pos) nd hgn ⟨hr.dp, hr.un⟩ rfl (.inl hle) hz hf hdn
      exact (hp _ _ _).imp fun σ H Q ⟨h0, hd, D, bs, h1, Nm, h2, h3⟩ => ⟨h0, hd, D, bs, h1, ⟨Nm.C, Nm.own, Nm.ve, Nm.mv, Nm.mi, Nm.mz⟩, h2, h3⟩
    · refine ⟨fun cls d H' => PySem.W.exmOne X.K cls (.ref RE) = some true ∧ d = none ∧ ∃ D bs, cls = .ref D ∧ Named X D bs ∧ bs.length = 9 ∧ ∀ H2, Same H' H2 → Q (.str (nameOf bs)) H2, fun cls d τ H' hl ⟨h1, h2, h3⟩ => ⟨true, h1, fun _ a _ => ⟨?_, h2, h3⟩, fun z => by cases z⟩, rfl, hc, h⟩
      rw [List.getElem?_set, if_pos rfl, if_pos (by omega)]
  · cases hB
end PD
set_option linter.all false
set_option maxRecDepth 100000
set_option maxHeartbeats 2000000
/-! The rule for a lambda handed to the def that names its error. -/
namespace PD
open PySem PySem.Spec PyProof.Rows L2 LamX HotX L2H
section
variable {F : Fx} {σ : Slots} {H H1 H' : Hp} {e : SEnv} {B : Bg}
theorem noBag_get {i : Nat} {s : Sl} (h : (noBag e)[i]? = some s) : s ≠ .bag ∧ (s = .emp ∨ e[i]? = some s) := by
  unfold noBag at h
  rw [List.getElem?_map] at h
  obtain ⟨s', h1, h2⟩ := Option.map_eq_some_iff.mp h
  cases s' <;> subst h2 <;> simp [h1]
theorem noBag_own {i : Nat} (h : Own (noBag e) i) : ∃ ds, e[i]? = some (.own ds) := by
  rcases h with h | ⟨ds, h⟩
  · exact absurd rfl (noBag_get h).1
  · rcases (noBag_get h).2 with z | z
    · cases z
    · exact ⟨ds, z⟩
theorem noBag_bm {a : Addr} (h : Bm σ (noBag e) a) : False := by
  obtain ⟨i, h1, _⟩ := h
  exact (noBag_get h1).1 rfl
theorem noBag_av {a : Addr} (h : Av F σ (noBag e) a) : Av F σ e a := h.elim .inl fun ⟨i, h1, h2⟩ => .inr ⟨i, .inr (noBag_own h1), h2⟩
theorem SI.noBag (I : SI F σ H e B) (hb : F.b0 = none) : SI F σ H (noBag e) [] := by
  refine ⟨?_, I.ext, I.tabs, I.dom', fun i d h => ?_, fun i ds h => ?_, fun i h => absurd rfl (noBag_get h).1, fun i j a h1 h2 => I.inj i j a (.inr (noBag_own h1)) (.inr (noBag_own h2)), fun i j h => absurd rfl (noBag_get h).1, fun b h => ?_, fun p hp => (I.kp p hp).thru (.less fun a => noBag_av) (.less fun a => noBag_av)⟩
  · unfold PD.noBag; rw [List.length_map]; exact I.len
  · rcases (noBag_get h).2 with z | z
    · cases z
    · obtain ⟨v, h1, h2⟩ := I.val i d z
      exact ⟨v, h1, h2.less fun a => noBag_av⟩
  · rcases (noBag_get h).2 with z | z
    · cases z
    · obtain ⟨h0, a, xs, h1, h2, h3, h4, h5, h6⟩ := I.own i ds z
      exact ⟨h0, a, xs, h1, h2, h3, h4.less fun a => noBag_av, h5, fun q => h6 (q.elim .inl fun q => (noBag_bm q).elim)⟩
  · rw [hb] at h; cases h
theorem SI.lam (I : SI F σ H e B) (eN : ExtN H H1) (T1 : Tabs F.T H1) (x : Ext F.T (Bm σ (PD.noBag e)) H1 H') : Go F σ H e B H' := by
  refine ⟨⟨fun a o h n t => x.keep a o (eN a o h t) (fun z => noBag_bm z) t, fun a xs h => x.tups a xs (eN a _ h fun ps z => by cases z), fun a o u h => x.frzs a o u (eN a _ h fun ps z => by cases z), fun _ => x.tabs T1⟩, fun i b h1 h2 => ?_⟩
  obtain ⟨_, b', e1, e2, _⟩ := I.bag i h1
  rw [h2] at e1; cases e1
  exact x.keep b _ (eN b _ e2 fun ps z => by cases z) (fun z => noBag_bm z) fun ps z => by cases z
end
/-- the def that tells the error's name of what it calls -/
structure ErrDef (K : PySem.W.Frag) (mg : Str → Option Value) (x : Str) (RE : Addr) : Prop where
  ex : ∃ (oc cdv dV kV doc pm ct : Value) (g : Addr) (od an : Option Addr) (osl : Array (Option Value)) (params : Arguments) (bg : List Stmt) (sg : Scope) (r n : Str), mg x = some (.ref g) ∧ PySem.W.keepIn K (.ref g) = true ∧
    K.lookup g = some ⟨oc, od, .func (PySem.W.fnOf x x params bg sg dV kV doc pm an cdv ct), osl⟩ ∧ PySem.W.codeIn K cdv x = true ∧ L2.Binds K (PySem.W.fnOf x x params bg sg dV kV doc pm an cdv ct) ["call"] [] ∧ FnScope ["call", "e"] ["call"] sg ∧
    leB "call" "e" r n bg = true ∧ NeDef K mg n ∧ sg.names.lookup r = some .globalImplicit ∧ mg r = some (.ref RE) ∧ sg.names.lookup n = some .globalImplicit ∧ sg.names.lookup ("e" : Str) = some .local ∧ (r == ("__debug__" : Str)) = false ∧ (n == ("__debug__" : Str)) = false
/-- the numbers of errors and their names -/
def EnOk (X : Cx) (F : Fx) (RE : Addr) : Prop := ∀ c z, F.Γ.en c = some z → PySem.W.exmOne X.K (.ref (F.cls c)) (.ref RE) = some true ∧ ∃ bs, Named X (F.cls c) bs ∧ bs.length = 9 ∧ nameOf bs = z
theorem lamRule_ok {X : Cx} {F : Fx} {x : Str} {k : Nat} {RE c P : Addr} (hb0 : F.b0 = none) (hg : Gl X x) (hdb : (x == ("__debug__" : Str)) = false) (ed : ErrDef X.K X.mg x RE) (TB : LamX.TabB X.base X.mg c P) (hcode : X.env.code = .ref c) (hmT : (P, X.env.qual ++ "<lambda>") ∈ F.T)
    (hu : ∀ p ∈ F.T, p.1 = P → p.2 = X.env.qual ++ "<lambda>") (hr : Room (k + 2) X.A) (hen : EnOk X F RE) : LamRule X F x false k := by
  intro body scope lpos p pos m W L hb
  obtain ⟨oc, cdv, dV, kV, doc, pm, ct, g, od, an, osl, params, bg, sg, r, n, hm, hk, lk, hcg, hbn, Sg, hB, nd, hgr, hmr, hgn, hle, hdr, hdn⟩ := ed.ex
  have hva : Vis sg "call" := (Sg.par "call" (by simp)).elim .inl fun h => .inr (.inl h)
  refine (lamcall_N (T := F.T) (TT := TErr X RE) (a := "call") (Ng := ["call", "e"]) (k := k) (t := fun E => tD F (fun c H' => E (.ref (F.cls c)) none H') m) hg hm hk lk hcg hbn Sg rfl hva (err_gives hB nd hgr hmr hgn hle hdr hdn) TB hcode hmT hu hr L rfl (fun _ _ _ _ _ => rfl) (fun A outer s H E f c' h => hb F.A0 A outer s H E f c' h) hdb (by decide) (by decide)).imp ?_
  rintro σ H Q ⟨e, B, I, hA⟩
  refine ⟨I.tabs, fun H1 eN T1 => ?_⟩
  have I1 : SI F σ H1 (noBag e) [] := (I.step (I.lam eN T1 .refl)).noBag hb0
  refine ⟨noBag e, [], I1, ?_⟩
  have hev : ev F.Γ (.lerr m) e B = (match ev F.Γ m (noBag e) [] with
    | .ok _ => .ok (.str Str.empty, B)
    | .err c => ofO B ((F.Γ.en c).map .str)
    | .stuck => .stuck) := by
    simp only [ev]
    all_goals (cases ev F.Γ m (noBag e) [] <;> rfl)
  have hA : After F W σ H e (ev F.Γ (.lerr m) e B) fun d x H' => ∀ (v : V), Rs F (.lerr m) σ e H' d v → Q v H' := hA
  rw [hev] at hA
  cases q : ev F.Γ m (noBag e) [] with
  | stuck => rw [q] at hA; exact hA
  | ok pr =>
    obtain ⟨d, B'⟩ := pr
    rw [q] at hA
    intro H' gg v _
    exact hA H' (I.lam eN T1 gg.ext) (.str Str.empty) (.ofV fun _ => .ofS _)
  | err c =>
    rw [q] at hA
    have hA : After F W σ H e (ofO B ((F.Γ.en c).map .str)) fun d x H' => ∀ (v : V), Rs F (.lerr m) σ e H' d v → Q v H' := hA
    intro H' xx
    cases qe : F.Γ.en c with
    | none => rw [qe] at hA; exact (show False from hA).elim
    | some z =>
      rw [qe] at hA
      obtain ⟨h1, bs, h2, h3, h4⟩ := hen c z qe
      exact ⟨h1, rfl, _, bs, rfl, h2, h3, fun H2 s2 => by rw [h4]; exact hA H2 (I.lam eN T1 (xx.trans (.same s2))) (.str z) (.ofV fun _ => .ofS _)⟩
end PD
set_option linter.all false
set_option maxRecDepth 100000
set_option maxHeartbeats 2000000
/-! The law's def that tells what a call gives, or the name of its error. -/
namespace PD
open PySem PySem.Spec PyProof.Rows L2 LamX HotX L2H
/-- try: return (call(), '') / except RainError as e: return (None, named(e)) -/
def ltB (a e r n : Str) : List Stmt → Bool
  | [.Try [.Return (some (.Tuple [.Call (.Name a1 _) [] [] _, .Constant (.str z) _ _] _ _)) _] [.ExceptHandler (some (.Name r1 _)) (some e1) [.Return (some (.Tuple [.Constant .none _ _, .Call (.Name n1 _) [.Name e2 _] [] _] _ _)) _] _] [] [] _] =>
    decide (a1 = a) && decide (r1 = r) && decide (e1 = e) && decide (n1 = n) && decide (e2 = e) && decide (z = ("" : Str))
  | _ => false
/-- what the def tells of a call -/
def TTold (X : Cx) (RE : Addr) : (XK → Hp → VK → Prop) → Hp → VK → Prop := fun tl H Q =>
  tl (fun cls d H' => PySem.W.exmOne X.K cls (.ref RE) = some true ∧ d = none ∧ ∃ D bs, cls = .ref D ∧ Named X D bs ∧ bs.length = 9 ∧ ∀ H2, Same H' H2 → ∀ p, H2 p = none → Q (.ref p) (upd H2 p (.tup [.non, .str (nameOf bs)]))) H (fun v H' => ([v, .str ""] : List V).length ≤ sizeLine ∧ ∀ p, H' p = none → Q (.ref p) (upd H' p (.tup [v, .str ""])))
theorem told_gives {X : Cx} {x q r n : Str} {sg : Scope} {g RE : Addr} {cdg : Value} {k : Nat} {bg : List Stmt} (hB : ltB "call" "e" r n bg = true) (nd : NeDef X.K X.mg n) (hgr : sg.names.lookup r = some .globalImplicit) (hmr : X.mg r = some (.ref RE)) (hgn : sg.names.lookup n = some .globalImplicit)
    (hle : sg.names.lookup ("e" : Str) = some .local) (hdr : (r == ("__debug__" : Str)) = false) (hdn : (n == ("__debug__" : Str)) = false) : GivesN X ["call", "e"] x sg g cdg bg "call" q (k + 1) (TTold X RE) := by
  intro f c' s H Q tl hr act hc h
  unfold ltB at hB
  split at hB
  · simp only [Bool.and_eq_true, decide_eq_true_eq] at hB
    obtain ⟨⟨⟨⟨⟨k1, k2⟩, k3⟩, k4⟩, k5⟩, k6⟩ := hB
    subst k1 k2 k3 k4 k5 k6
    refine ⟨_, pss_one (L2N.ps_try_as (X := (gotX X ["call", "e"] x sg g cdg s H).nox) (n := ("e" : Str)) (c := .ref RE) (i := 1) (Wout := fun _ _ _ _ => False)
      (tb := fun W D σ H' => ∃ E : XK, (∀ cls d (τ : L2.St) H', τ.length = 2 → E cls d H' → W cls d τ H') ∧ tRet (tTup (tCons (fun τ HZ Q => τ[0]? = some (some (.ref f)) ∧ HZ c' = some (CodeO c' q) ∧ tl E HZ Q) (tCons (L2.tC (.str "")) tNil))) D σ H')
      (ts := fun a cls d => tRet (tTup (tCons (L2.tC .non) (tCons (fun σ H Q => σ[1]? = some (some (.ref a)) ∧ d = none ∧ (∃ D bs, cls = .ref D ∧ Named X D bs ∧ bs.length = 9 ∧ ∀ H', Same H H' → Q (.str (nameOf bs)) H')) tNil))))
      rfl rfl (by show (["call", "e"] : List Str).Nodup; decide) rfl hle ⟨hgr, hdr, .inl hmr⟩ takesN0 (fun W pn xe tk _ => ?_) (fun a oe cls d pn hz hf => ?_)), ?_⟩
    · refine ⟨fun pins s' σ H' D I h' => ?_⟩
      obtain ⟨E, hW, h1⟩ := h'
      exact (pss_one (ps_ret (pe_tup (pa_cons (act W pn xe E _ _ tk hW) (pa_cons pe_str pa_nil rfl) rfl)))).run pins s' σ H' D I h1
    · refine pss_one (ps_ret (pe_tup (pa_cons pe_non (pa_cons ?_ pa_nil rfl) rfl)))
      have hp := fun (p1 p2 pos : Pos) => pe_ne (X := (gotX X ["call", "e"] x sg g cdg s H).nox) (a := a) (oe := oe) (pn := pn) (k := k) (i := 1) (cls := cls) (d := d) (p1 := p1) (p2 := p2) (pos := pos) nd hgn ⟨hr.dp, hr.un⟩ rfl (.inl hle) hz hf hdn
      exact (hp _ _ _).imp fun σ H Q ⟨h0, hd, D, bs, h1, Nm, h2, h3⟩ => ⟨h0, hd, D, bs, h1, ⟨Nm.C, Nm.own, Nm.ve, Nm.mv, Nm.mi, Nm.mz⟩, h2, h3⟩
    · refine ⟨fun cls d H' => PySem.W.exmOne X.K cls (.ref RE) = some true ∧ d = none ∧ ∃ D bs, cls = .ref D ∧ Named X D bs ∧ bs.length = 9 ∧ ∀ H2, Same H' H2 → ∀ p, H2 p = none → Q (.ref p) (upd H2 p (.tup [.non, .str (nameOf bs)])), fun cls d τ H' hl ⟨h1, h2, h3⟩ => ⟨true, h1, fun _ a _ => ?_, fun z => by cases z⟩, ?_⟩
      · show tRet (tTup _) _ _ _
        refine ⟨?_, h2, ?_⟩
        · rw [List.getElem?_set, if_pos rfl, if_pos (by omega)]
        · obtain ⟨D, bs, e1, e2, e3, e4⟩ := h3
          exact ⟨D, bs, e1, e2, e3, fun H2 s2 => ⟨by show 2 ≤ _; rw [sizeLine_eq]; omega, e4 H2 s2⟩⟩
      · exact ⟨rfl, hc, h⟩
  · cases hB
/-- the def that tells what it calls gives -/
structure ToldDef (K : PySem.W.Frag) (mg : Str → Option Value) (x : Str) (RE : Addr) : Prop where
  ex : ∃ (oc cdv dV kV doc pm ct : Value) (g : Addr) (od an : Option Addr) (osl : Array (Option Value)) (params : Arguments) (bg : List Stmt) (sg : Scope) (r n : Str), mg x = some (.ref g) ∧ PySem.W.keepIn K (.ref g) = true ∧
    K.lookup g = some ⟨oc, od, .func (PySem.W.fnOf x x params bg sg dV kV doc pm an cdv ct), osl⟩ ∧ PySem.W.codeIn K cdv x = true ∧ L2.Binds K (PySem.W.fnOf x x params bg sg dV kV doc pm an cdv ct) ["call"] [] ∧ FnScope ["call", "e"] ["call"] sg ∧
    ltB "call" "e" r n bg = true ∧ NeDef K mg n ∧ sg.names.lookup r = some .globalImplicit ∧ mg r = some (.ref RE) ∧ sg.names.lookup n = some .globalImplicit ∧ sg.names.lookup ("e" : Str) = some .local ∧ (r == ("__debug__" : Str)) = false ∧ (n == ("__debug__" : Str)) = false
/-- the bag put out of sight, and among what is not to be reached -/
def Fx.hid (F : Fx) (σ : Slots) (e : SEnv) : Fx := { F with A0 := fun a => F.A0 a ∨ Bm σ e a }
theorem noBag_ownT {e : SEnv} {i : Nat} {ds : List D} (h : e[i]? = some (.own ds)) : (noBag e)[i]? = some (.own ds) := by
  unfold noBag
  rw [List.getElem?_map, h]; rfl
theorem hid_av {F : Fx} {σ : Slots} {e : SEnv} {a : Addr} : Av (F.hid σ e) σ (noBag e) a ↔ Av F σ e a := by
  constructor
  · rintro (h | ⟨i, h1, h2⟩)
    · exact h.elim .inl fun q => q.av
    · exact .inr ⟨i, .inr (noBag_own h1), h2⟩
  · rintro (h | ⟨i, h1, h2⟩)
    · exact .inl (.inl h)
    · rcases h1 with h1 | ⟨ds, h1⟩
      · exact .inl (.inr ⟨i, h1, h2⟩)
      · exact .inr ⟨i, .inr ⟨ds, noBag_ownT h1⟩, h2⟩
theorem hid_ab {F : Fx} {σ : Slots} {e : SEnv} {a : Addr} : Ab (F.hid σ e) σ (noBag e) a ↔ Ab F σ e a := by
  constructor
  · rintro (h | h)
    · exact h
    · exact (noBag_bm h).elim
  · exact fun h => .inl h
theorem hid_pr {F : Fx} {σ : Slots} {e : SEnv} {b : Bool} {a : Addr} : Pr (F.hid σ e) σ (noBag e) b a ↔ Pr F σ e b a := by
  cases b with
  | true => exact hid_av
  | false => exact hid_ab
theorem SI.hid {F : Fx} {σ : Slots} {H : Hp} {e : SEnv} {B : Bg} (I : SI F σ H e B) (hb : F.b0 = none) : SI (F.hid σ e) σ H (PD.noBag e) [] := by
  refine ⟨?_, I.ext, I.tabs, fun a h => ?_, fun i d h => ?_, fun i ds h => ?_, fun i h => absurd rfl (noBag_get h).1, fun i j a h1 h2 => I.inj i j a (.inr (noBag_own h1)) (.inr (noBag_own h2)), fun i j h => absurd rfl (noBag_get h).1, fun b h => ?_, fun p hp => (I.kp p hp).thru (.less fun a => hid_av.mp) (.less fun a => hid_av.mp)⟩
  · unfold PD.noBag; rw [List.length_map]; exact I.len
  · exact I.domA a (show Av F σ e a from h.elim .inl fun q => q.av)
  · rcases (noBag_get h).2 with z | z
    · cases z
    · obtain ⟨v, h1, h2⟩ := I.val i d z
      exact ⟨v, h1, h2.less fun a => hid_av.mp⟩
  · rcases (noBag_get h).2 with z | z
    · cases z
    · obtain ⟨h0, a, xs, h1, h2, h3, h4, h5, h6⟩ := I.own i ds z
      exact ⟨h0, a, xs, h1, h2, h3, h4.less fun a => hid_av.mp, h5, fun q => h6 (hid_ab.mp q)⟩
  · exact absurd (show F.b0 = some b from h) (by rw [hb]; simp)
theorem toldRule_ok {X : Cx} {F : Fx} {x : Str} {k : Nat} {RE c P : Addr} (hb0 : F.b0 = none) (hg : Gl X x) (hdb : (x == ("__debug__" : Str)) = false) (ed : ToldDef X.K X.mg x RE) (TB : LamX.TabB X.base X.mg c P) (hcode : X.env.code = .ref c) (hmT : (P, X.env.qual ++ "<lambda>") ∈ F.T)
    (hu : ∀ p ∈ F.T, p.1 = P → p.2 = X.env.qual ++ "<lambda>") (hr : Room (k + 2) X.A) (hen : EnOk X F RE) : LamRule X F x true k := by
  intro body scope lpos p pos m W L hb
  obtain ⟨oc, cdv, dV, kV, doc, pm, ct, g, od, an, osl, params, bg, sg, r, n, hm, hk, lk, hcg, hbn, Sg, hB, nd, hgr, hmr, hgn, hle, hdr, hdn⟩ := ed.ex
  have hva : Vis sg "call" := (Sg.par "call" (by simp)).elim .inl fun h => .inr (.inl h)
  refine (lamcall_N (T := F.T) (TT := TTold X RE) (a := "call") (Ng := ["call", "e"]) (k := k) (t := fun E σ H Q => ∃ A0, tD { F with A0 := A0 } (fun c H' => E (.ref (F.cls c)) none H') m σ H Q) hg hm hk lk hcg hbn Sg rfl hva (told_gives hB nd hgr hmr hgn hle hdr hdn) TB hcode hmT hu hr L rfl (fun _ _ _ _ _ => rfl) (fun A outer s H E f c' h => ⟨fun pins s1 σ H1 Q1 J ⟨A0, q⟩ => (hb A0 A outer s H E f c' h).run pins s1 σ H1 Q1 J q⟩) hdb (by decide) (by decide)).imp ?_
  rintro σ H Q ⟨e, B, I, hA⟩
  refine ⟨I.tabs, fun H1 eN T1 => ?_⟩
  have I1 := (I.step (I.lam eN T1 .refl)).hid hb0
  refine ⟨(F.hid σ e).A0, noBag e, [], I1, ?_⟩
  have hA : After F W σ H e (ev F.Γ (.ltold m) e B) fun d x H' => ∀ (v : V), Rs F (.ltold m) σ e H' d v → Q v H' := hA
  have hev : ev F.Γ (.ltold m) e B = (match ev F.Γ m (noBag e) [] with
    | .ok (d, _) => .ok (.tuple [d, .str Str.empty], B)
    | .err c => ofO B ((F.Γ.en c).map fun x => .tuple [.none, .str x])
    | .stuck => .stuck) := by
    simp only [ev]
    all_goals (cases ev F.Γ m (noBag e) [] <;> rfl)
  rw [hev] at hA
  cases q : ev F.Γ m (noBag e) [] with
  | stuck => rw [q] at hA; exact hA
  | ok pr =>
    obtain ⟨d, B'⟩ := pr
    rw [q] at hA
    have hA : ∀ H', Go F σ H e B H' → ∀ (v : V), Rs F (.ltold m) σ e H' (.tuple [d, .str Str.empty]) v → Q v H' := hA
    intro H' gg v hv
    refine ⟨by show 2 ≤ _; rw [sizeLine_eq]; omega, fun p hp => ?_⟩
    have g1 := I.lam eN T1 gg.ext
    have o := out_of (m := .ltold m) (b := sf F.O m) (I.step g1) (by simp only [sf]) (by simp only [ss]) (fun H2 g2 v h => hA H2 (g1.trans g2) v h)
    have dv : Dv F.K H' (Pr F σ e (sf F.O m)) d v := hv.dv.less fun a q => (hid_pr (F := F)).mpr q
    exact o.tup hp (by show 2 ≤ _; rw [sizeLine_eq]; omega) (.cons dv (.cons (.ofS _) .nil))
  | err c =>
    rw [q] at hA
    have hA : After F W σ H e (ofO B ((F.Γ.en c).map fun x => .tuple [.none, .str x])) fun d x H' => ∀ (v : V), Rs F (.ltold m) σ e H' d v → Q v H' := hA
    intro H' xx
    cases qe : F.Γ.en c with
    | none => rw [qe] at hA; exact (show False from hA).elim
    | some z =>
      rw [qe] at hA
      have hA : ∀ H', Go F σ H e B H' → ∀ (v : V), Rs F (.ltold m) σ e H' (.tuple [.none, .str z]) v → Q v H' := hA
      obtain ⟨h1, bs, h2, h3, h4⟩ := hen c z qe
      refine ⟨h1, rfl, _, bs, rfl, h2, h3, fun H2 s2 p hp => ?_⟩
      rw [h4]
      have g1 := I.lam eN T1 (xx.trans (.same s2))
      have o := out_of (m := .ltold m) (b := sf F.O m) (I.step g1) (by simp only [sf]) (by simp only [ss]) (fun H2 g2 v h => hA H2 (g1.trans g2) v h)
      exact o.tup hp (by show 2 ≤ _; rw [sizeLine_eq]; omega) (.cons .ofN (.cons (.ofS _) .nil))
end PD
set_option linter.all false
set_option maxRecDepth 100000
set_option maxHeartbeats 2000000
/-! A law's defs as a list, each known at every depth. -/
namespace PD
open PySem PySem.Spec PyProof.Rows L2 LamX HotX L2H
def scOk (N ps : List Str) (sc : Scope) : Bool := decide (sc.kind = .function) && !sc.isCoroutine && !sc.isGenerator && decide N.Nodup && decide (N.take ps.length = ps) && ps.all (fun x => decide (sc.names.lookup x = some .local) || decide (sc.names.lookup x = some .cell)) && sc.names.all fun y => !decide (y.2 = .free)
theorem scOk_ok {N ps : List Str} {sc : Scope} (h : scOk N ps sc = true) : FnScope N ps sc := by
  simp only [scOk, Bool.and_eq_true, Bool.or_eq_true, Bool.not_eq_true', decide_eq_true_eq, decide_eq_false_iff_not, List.all_eq_true] at h
  obtain ⟨⟨⟨⟨⟨⟨h1, h2⟩, h3⟩, h4⟩, h5⟩, h6⟩, h7⟩ := h
  exact ⟨h1, h2, h3, h4, h5, h6, h7⟩
/-- a def as a datum: its name, number, parameters, whether it draws from the bag, its text, what is known of it -/
structure DRow where
  x : Str
  id : Nat
  ps : List Str
  bag : Bool
  st : Stmt
  C : Ct
def DRow.body (r : DRow) : MSs := (cSs 40 r.C (defBody r.st)).getD .nil
def DRow.fn (r : DRow) : Fn := ⟨r.ps.length, r.C.N.length, r.bag, r.C.new, r.body⟩
def DRow.ok (r : DRow) : Bool := scOk r.C.N r.ps (defScope r.st) && (cSs 40 r.C (defBody r.st)).isSome && r.C.lams.isEmpty && (!r.bag || (r.C.O.contains 0 && !r.C.sb && !r.C.new))
theorem DRow.read {r : DRow} (h : r.ok = true) : cSs 40 r.C (defBody r.st) = some r.fn.body := by
  simp only [DRow.ok, Bool.and_eq_true] at h
  obtain ⟨⟨⟨_, h⟩, _⟩, _⟩ := h
  obtain ⟨b, hb⟩ := Option.isSome_iff_exists.mp h
  show _ = some r.body
  unfold DRow.body
  rw [hb]; rfl
section
variable {U : Wd} {n : Nat} {r : DRow} {f : Addr} {fd : FuncData}
theorem row_p (kn : U.knows n r.C.fns) (fc : U.facts r.C.gcs r.C.excs r.C.blts) (Fd : FunD U.K r.x r.x (defArgs r.st) (defBody r.st) (defScope r.st) [] [] f fd) (hm : U.mg r.x = some (.ref f)) (hb : Binds U.K fd r.ps []) (ok : r.ok = true) (hsc : r.C.sc = defScope r.st) (hnat : U.Pg.nat r.id = none)
    (hfn : U.Pg.fn r.id = some r.fn) (hbag : r.bag = false) : U.has (n + 1) r.x r.id r.ps.length r.C.new := by
  have rd := r.read ok
  simp only [DRow.ok, Bool.and_eq_true] at ok
  obtain ⟨⟨⟨h1, _⟩, h3⟩, _⟩ := ok
  exact ⟨f, fd, r.ps, def_ok kn fc Fd (scOk_ok h1) hsc rd hnat hfn rfl rfl hbag (List.isEmpty_iff.mp h3), hm, Fd.kp, hb⟩
theorem row_b (kn : U.knows n r.C.fns) (fc : U.facts r.C.gcs r.C.excs r.C.blts) (Fd : FunD U.K r.x r.x (defArgs r.st) (defBody r.st) (defScope r.st) [] [] f fd) (hm : U.mg r.x = some (.ref f)) (hb : Binds U.K fd r.ps []) (ok : r.ok = true) (hsc : r.C.sc = defScope r.st)
    (hfn : U.Pg.fn r.id = some r.fn) (hbag : r.bag = true) : U.hasB (n + 1) r.x r.id r.ps.length := by
  have rd := r.read ok
  simp only [DRow.ok, Bool.and_eq_true, hbag, Bool.not_true, Bool.false_or, Bool.not_eq_true'] at ok
  obtain ⟨⟨⟨h1, _⟩, h3⟩, ⟨h4, h5⟩, h6⟩ := ok
  exact ⟨f, fd, r.ps, defB_ok kn fc Fd (scOk_ok h1) hsc rd hfn rfl rfl hbag (by simpa using h4) h5 h6 (List.isEmpty_iff.mp h3), hm, Fd.kp, hb⟩
theorem row_p0 {x : Str} {id np : Nat} {new : Bool} {ps : List Str} (hm : U.mg x = some (.ref f)) (hk : PySem.W.keepIn U.K (.ref f) = true) (hb : Binds U.K fd ps []) (hl : ps.length = np) : U.has 0 x id np new := by
  refine ⟨f, fd, ps, ⟨fun vs H Q E h => h.1.trans hl.symm, fun A outer s H args us vs Q E hr e0 hb r h => ?_⟩, hm, hk, hb⟩
  obtain ⟨_, A0, ds, _, _, _, h⟩ := h
  exact (show False from h).elim
theorem row_b0 {x : Str} {id np : Nat} {ps : List Str} (hm : U.mg x = some (.ref f)) (hk : PySem.W.keepIn U.K (.ref f) = true) (hb : Binds U.K fd ps []) (hl : ps.length = np) : U.hasB 0 x id np := by
  refine ⟨f, fd, ps, ⟨fun vs H Q E h => h.1.trans hl.symm, fun A outer s H args us vs Q E hr e0 hb r h => ?_⟩, hm, hk, hb⟩
  obtain ⟨_, A0, ds, b, B, us, _, _, _, _, _, _, h⟩ := h
  exact (show False from h).elim
/-- the entry of a def in the table -/
def DRow.ent (r : DRow) : Str × Nat × Nat × Bool × Bool := (r.x, r.id, r.ps.length, r.bag, r.C.new)
/-- where a def stands -/
structure DRow.At (U : Wd) (r : DRow) : Prop where
  ex : ∃ f fd, FunD U.K r.x r.x (defArgs r.st) (defBody r.st) (defScope r.st) [] [] f fd ∧ U.mg r.x = some (.ref f) ∧ Binds U.K fd r.ps []
  ok : r.ok = true
  sc : r.C.sc = defScope r.st
  nat : U.Pg.nat r.id = none
  fn : U.Pg.fn r.id = some r.fn
theorem lookup_memE : ∀ {l : List (Str × Nat × Nat × Bool × Bool)} {x : Str} {v : Nat × Nat × Bool × Bool}, l.lookup x = some v → (x, v) ∈ l
  | [], _, _, h => by cases h
  | (y, w) :: l, x, v, h => by
    rw [List.lookup_cons] at h
    split at h
    · rename_i e
      cases h
      rw [eq_of_beq e]
      exact List.mem_cons_self
    · exact List.mem_cons_of_mem _ (lookup_memE h)
/-- every def of the list is known at every depth -/
theorem knows_all {rs : List DRow} {fns : Fns} {gcs excs : List (Str × Nat)} {blts : List Str} (hf : fns = rs.map DRow.ent) (hC : ∀ r ∈ rs, r.C.fns = fns ∧ r.C.gcs = gcs ∧ r.C.excs = excs ∧ r.C.blts = blts) (fc : U.facts gcs excs blts) (at_ : ∀ r ∈ rs, r.At U) : ∀ n, U.knows n fns
  | 0 => by
    refine ⟨fun x f np new h => ?_, fun x f np new h => ?_⟩
    · rw [hf] at h
      obtain ⟨r, hr, e⟩ := List.mem_map.mp (lookup_memE h)
      obtain ⟨f', fd, Fd, hm, hb⟩ := (at_ r hr).ex
      obtain ⟨e1, e⟩ := Prod.mk.inj e
      obtain ⟨e2, e⟩ := Prod.mk.inj e
      obtain ⟨e3, e⟩ := Prod.mk.inj e
      subst e1 e2 e3
      exact row_p0 hm Fd.kp hb rfl
    · rw [hf] at h
      obtain ⟨r, hr, e⟩ := List.mem_map.mp (lookup_memE h)
      obtain ⟨f', fd, Fd, hm, hb⟩ := (at_ r hr).ex
      obtain ⟨e1, e⟩ := Prod.mk.inj e
      obtain ⟨e2, e⟩ := Prod.mk.inj e
      obtain ⟨e3, e⟩ := Prod.mk.inj e
      subst e1 e2 e3
      exact row_b0 hm Fd.kp hb rfl
  | n + 1 => by
    have ih := knows_all hf hC fc at_ n
    refine ⟨fun x f np new h => ?_, fun x f np new h => ?_⟩
    · rw [hf] at h
      obtain ⟨r, hr, e⟩ := List.mem_map.mp (lookup_memE h)
      obtain ⟨f', fd, Fd, hm, hb⟩ := (at_ r hr).ex
      obtain ⟨h1, h2, h3, h4⟩ := hC r hr
      obtain ⟨e1, e⟩ := Prod.mk.inj e
      obtain ⟨e2, e⟩ := Prod.mk.inj e
      obtain ⟨e3, e⟩ := Prod.mk.inj e
      obtain ⟨e4, e5⟩ := Prod.mk.inj e
      subst e1 e2 e3 e5
      exact row_p (by rw [h1]; exact ih) (by rw [h2, h3, h4]; exact fc) Fd hm hb (at_ r hr).ok (at_ r hr).sc (at_ r hr).nat (at_ r hr).fn e4
    · rw [hf] at h
      obtain ⟨r, hr, e⟩ := List.mem_map.mp (lookup_memE h)
      obtain ⟨f', fd, Fd, hm, hb⟩ := (at_ r hr).ex
      obtain ⟨h1, h2, h3, h4⟩ := hC r hr
      obtain ⟨e1, e⟩ := Prod.mk.inj e
      obtain ⟨e2, e⟩ := Prod.mk.inj e
      obtain ⟨e3, e⟩ := Prod.mk.inj e
      obtain ⟨e4, e5⟩ := Prod.mk.inj e
      subst e1 e2 e3
      exact row_b (by rw [h1]; exact ih) (by rw [h2, h3, h4]; exact fc) Fd hm hb (at_ r hr).ok (at_ r hr).sc (at_ r hr).fn e4
end
end PD
set_option linter.all false
set_option maxRecDepth 100000
set_option maxHeartbeats 2000000
/-! From what the head says to the law's def. -/
namespace PD
open PySem PySem.Spec PyProof.Rows L2 LamX HotX L2H
/-- what isinstance sees of an error class -/
def namedB (K : PySem.W.Frag) (D : Str) (bs : List Bool) : Bool :=
  decide (PySem.W.findIn K (.ref (He.ga K D)) "__getattribute__" = some (some (.builtin "BaseException.__getattribute__"))) && decide (PySem.W.findIn K (.ref (He.ga K D)) "__getattr__" = some none) && decide (PySem.W.subIn K (.ref (He.ga K D)) (.type "BaseException") = some true) && PySem.W.hasDictIn K (He.ga K D) &&
  decide (PySem.W.findIn K (.ref (He.ga K D)) "__class__" = some (some (.builtin "object.__class__"))) && decide (PySem.W.specialIn K (.builtin "object.__class__") "__get__" = some (some (.builtin "getset_descriptor.__get__"))) && decide (PySem.W.takesIn K (.builtin "object.__class__") = some true) &&
  decide (PySem.W.mroIn K (He.ga K D) (.type "object") = some true) && decide (bs.length = 9) && (List.range 8).all (fun i => decide (PySem.W.kitOne K (.ref (He.ga K D)) (.ref (He.ga K (ownCls.getD i Str.empty))) = bs[i]?)) && decide (PySem.W.kitOne K (.ref (He.ga K D)) (.type "ValueError") = bs[8]?)
theorem namedB_ok {X : Cx} {D : Str} {bs : List Bool} (h : namedB X.K D bs = true) (ho : ∀ c ∈ ownCls, X.mg c = some (.ref (He.ga X.K c))) (mv : X.mg "ValueError" = none) (mi : X.mg "isinstance" = none) (mz : X.mg "zip" = none) : Named X (He.ga X.K D) bs ∧ bs.length = 9 := by
  simp only [namedB, Bool.and_eq_true, decide_eq_true_eq, List.all_eq_true, List.mem_range] at h
  obtain ⟨⟨⟨⟨⟨⟨⟨⟨⟨⟨h1, h2⟩, h3⟩, h4⟩, h5⟩, h6⟩, h7⟩, h8⟩, h9⟩, h10⟩, h11⟩ := h
  refine ⟨⟨⟨h1, h2, h3, h4, h5, h6, h7, h8⟩, fun i c hc => ?_, ?_, mv, mi, mz⟩, h9⟩
  · have hi : i < 8 := (List.getElem?_eq_some_iff.mp hc).1
    have k := h10 i hi
    rw [List.getD_eq_getElem?_getD, hc] at k
    have hb : i < bs.length := by omega
    exact ⟨_, bs[i], ho c (List.mem_of_getElem? hc), List.getElem?_eq_getElem hb, k.trans (List.getElem?_eq_getElem hb)⟩
  · have hb : 8 < bs.length := by omega
    exact ⟨bs[8], List.getElem?_eq_getElem hb, h11.trans (List.getElem?_eq_getElem hb)⟩
def exChk (K : PySem.W.Frag) (ens : List (Str × List Bool)) : Bool := ens.all fun p => namedB K p.1 p.2 && decide (PySem.W.exmOne K (.ref (He.ga K p.1)) (.ref (He.ga K "RainError")) = some true)
def enOf (ens : List (Str × List Bool)) (c : Nat) : Option Str := (ens[c]?).map fun p => nameOf p.2
def clsOf (K : PySem.W.Frag) (ens : List (Str × List Bool)) (c : Nat) : Addr := He.ga K (((ens[c]?).map (·.1)).getD Str.empty)
theorem en_ok {X : Cx} {F : Fx} {ens : List (Str × List Bool)} (h : exChk X.K ens = true) (hen : F.Γ.en = enOf ens) (hcl : F.cls = clsOf X.K ens) (ho : ∀ c ∈ ownCls, X.mg c = some (.ref (He.ga X.K c))) (mv : X.mg "ValueError" = none) (mi : X.mg "isinstance" = none) (mz : X.mg "zip" = none) : EnOk X F (He.ga X.K "RainError") := by
  intro c z hz
  rw [hen] at hz
  obtain ⟨p, hp, rfl⟩ := Option.map_eq_some_iff.mp hz
  have k := List.all_eq_true.mp h p (List.mem_of_getElem? hp)
  simp only [Bool.and_eq_true, decide_eq_true_eq] at k
  have e : F.cls c = He.ga X.K p.1 := by rw [hcl]; unfold clsOf; rw [hp]; rfl
  rw [e]
  obtain ⟨k1, k2⟩ := namedB_ok k.1 ho mv mi mz
  exact ⟨k.2, p.2, k1, k2, rfl⟩
theorem facts_of {U : Wd} {gcs excs : List (Str × Nat)} {blts : List Str} (hg : ∀ p ∈ gcs, ∃ v u, U.mg p.1 = some u ∧ RelV v u ∧ ∀ H A, Dv U.K H A (U.Pg.gc p.2) v) (hb : ∀ x ∈ blts, U.mg x = none)
    (he : ∀ p ∈ excs, (He.Fa.exc p.1).ok U.K = true ∧ U.mg p.1 = some (.ref (He.ga U.K p.1)) ∧ U.cls p.2 = He.ga U.K p.1) : U.facts gcs excs blts := by
  have lm : ∀ {l : List (Str × Nat)} {x : Str} {n : Nat}, l.lookup x = some n → (x, n) ∈ l := fun h => mem_of_lk h
  refine ⟨fun x n h => hg _ (lm h), fun x h => hb x (by simpa using h), fun x n h => ?_⟩
  obtain ⟨h1, h2, h3⟩ := he _ (lm h)
  obtain ⟨k1, k2, k3, k4⟩ := He.exc_ok h1
  exact ⟨He.ga U.K x, _, _, _, _, PySem.F.excBase_ValueError, k1, h2, k2, ⟨k3, k4⟩, h3⟩
/-- a def's datum for the head -/
def mkD (x : Str) (st : Stmt) : He.DefD := ⟨(x, none), x, x, defArgs st, defBody st, defScope st, [], []⟩
/-- its arguments are bound one by one -/
def BindE (x : Str) (st : Stmt) (ps : List Str) : Prop := ∀ (kV doc pm : Value) (an : Option Addr) (cdv ct : Value) (us : List Value), us.length = ps.length → bindArgs (PySem.W.fnOf x x (defArgs st) (defBody st) (defScope st) .none kV doc pm an cdv ct) ⟨us, []⟩ = pure (ps.zip us)
section
variable {fa : List He.Fa} {fn : List He.DefD} {K : PySem.W.Frag} {h : Heap} {mg : Str → Option Value}
theorem def_at (X : K.In h) (G : h.Ns mainGlobals mg) (c : He.SaysD fa fn K) {x : Str} {st : Stmt} {ps : List Str} (hm : mkD x st ∈ fn) (hg : He.Fa.glo x ∈ fa) (hb : BindE x st ps) : ∃ fd, FunD K x x (defArgs st) (defBody st) (defScope st) [] [] (He.ga K x) fd ∧ mg x = some (.ref (He.ga K x)) ∧ Binds K fd ps [] := by
  obtain ⟨fd, F⟩ := He.SaysD.defs c hm
  have F : FunD K x x (defArgs st) (defBody st) (defScope st) [] [] (He.ga K x) fd := F
  exact ⟨fd, F, He.glo_ok X G (He.SaysD.facts c hg), FunD.bindsN F hb⟩
/-- the def that names the error -/
theorem neDef_of (X : K.In h) (G : h.Ns mainGlobals mg) (c : He.SaysD fa fn K) {x : Str} {st : Stmt} {sc2 : Scope} (hm : mkD x st ∈ fn) (hg : He.Fa.glo x ∈ fa) (hb : BindE x st ["e"]) (hs : scOk neN ["e"] (defScope st) = true) (hB : neB (defBody st) = some sc2) (hS : neSc (defScope st) sc2 = true) : NeDef K mg x := by
  obtain ⟨fd, F, hmg, hbn⟩ := def_at X G c hm hg hb
  obtain ⟨oc, od, dV, kV, doc, pm, an, cdv, ct, osl, rfl, lk, hcd, _, _⟩ := F.ex
  exact ⟨_, oc, cdv, dV, kV, doc, pm, ct, _, od, an, osl, _, _, _, sc2, rfl, hmg, F.kp, lk, hcd, hbn, scOk_ok hs, hB, hS⟩
theorem errDef_of (X : K.In h) (G : h.Ns mainGlobals mg) (c : He.SaysD fa fn K) {x r n : Str} {st : Stmt} (hm : mkD x st ∈ fn) (hg : He.Fa.glo x ∈ fa) (hb : BindE x st ["call"]) (hs : scOk ["call", "e"] ["call"] (defScope st) = true) (hB : leB "call" "e" r n (defBody st) = true) (nd : NeDef K mg n)
    (hr : (defScope st).names.lookup r = some .globalImplicit) (hmr : He.Fa.glo r ∈ fa) (hn : (defScope st).names.lookup n = some .globalImplicit) (hl : (defScope st).names.lookup ("e" : Str) = some .local) (hdr : (r == ("__debug__" : Str)) = false) (hdn : (n == ("__debug__" : Str)) = false) : ErrDef K mg x (He.ga K r) := by
  obtain ⟨fd, F, hmg, hbn⟩ := def_at X G c hm hg hb
  obtain ⟨oc, od, dV, kV, doc, pm, an, cdv, ct, osl, rfl, lk, hcd, _, _⟩ := F.ex
  exact ⟨oc, cdv, dV, kV, doc, pm, ct, _, od, an, osl, _, _, _, r, n, hmg, F.kp, lk, hcd, hbn, scOk_ok hs, hB, nd, hr, He.glo_ok X G (He.SaysD.facts c hmr), hn, hl, hdr, hdn⟩
theorem toldDef_of (X : K.In h) (G : h.Ns mainGlobals mg) (c : He.SaysD fa fn K) {x r n : Str} {st : Stmt} (hm : mkD x st ∈ fn) (hg : He.Fa.glo x ∈ fa) (hb : BindE x st ["call"]) (hs : scOk ["call", "e"] ["call"] (defScope st) = true) (hB : ltB "call" "e" r n (defBody st) = true) (nd : NeDef K mg n)
    (hr : (defScope st).names.lookup r = some .globalImplicit) (hmr : He.Fa.glo r ∈ fa) (hn : (defScope st).names.lookup n = some .globalImplicit) (hl : (defScope st).names.lookup ("e" : Str) = some .local) (hdr : (r == ("__debug__" : Str)) = false) (hdn : (n == ("__debug__" : Str)) = false) : ToldDef K mg x (He.ga K r) := by
  obtain ⟨fd, F, hmg, hbn⟩ := def_at X G c hm hg hb
  obtain ⟨oc, od, dV, kV, doc, pm, an, cdv, ct, osl, rfl, lk, hcd, _, _⟩ := F.ex
  exact ⟨oc, cdv, dV, kV, doc, pm, ct, _, od, an, osl, _, _, _, r, n, hmg, F.kp, lk, hcd, hbn, scOk_ok hs, hB, nd, hr, He.glo_ok X G (He.SaysD.facts c hmr), hn, hl, hdr, hdn⟩
end
/-- the tables that a law's lambdas are made through -/
def lawT (K : PySem.W.Frag) (x : Str) (st : Stmt) : List (Addr × Str) := [((He.cT K (x, none)).2, (envOfC x (defScope st) 0 0 .none).qual ++ "<lambda>")]
section
variable {U : Wd} {n : Nat} {fd : FuncData}
/-- the law's def, its lambdas told of their errors' names -/
theorem law_ok {r : DRow} {ens : List (Str × List Bool)} (kn : U.knows n r.C.fns) (fc : U.facts r.C.gcs r.C.excs r.C.blts) (F : FunD U.K r.x r.x (defArgs r.st) (defBody r.st) (defScope r.st) [] [] (He.ga U.K r.x) fd) (hsc : r.C.sc = defScope r.st) (hs : scOk r.C.N r.ps (defScope r.st) = true) (hc : (cSs 40 r.C (defBody r.st)).isSome = true)
    (hnat : U.Pg.nat r.id = none) (hfn : U.Pg.fn r.id = some r.fn) (hbag : r.bag = false) (hT : U.T = lawT U.K r.x r.st) (hl : ∀ x lb, r.C.lams.lookup x = some lb → x = "_law_error" ∧ lb = false) (hgl : (defScope r.st).names.lookup ("_law_error" : Str) = some .globalImplicit) (ed : ErrDef U.K U.mg "_law_error" (He.ga U.K "RainError"))
    (TB : LamX.TabB U.base U.mg (He.cT U.K (r.x, none)).1 (He.cT U.K (r.x, none)).2) (hx : exChk U.K ens = true) (hen : U.Pg.en = enOf ens) (hcl : U.cls = clsOf U.K ens) (ho : ∀ c ∈ ownCls, U.mg c = some (.ref (He.ga U.K c))) (mv : U.mg "ValueError" = none) (mi : U.mg "isinstance" = none) (mz : U.mg "zip" = none) :
    FnOk U.P U.w U.K U.mg U.base (L2N.CX U.P U.w) (3 * (n + 1)) (He.ga U.K r.x) fd r.ps (spP U.T U.cls (callP U.Pg (n + 1)) r.C.new U.K r.id r.ps.length) := by
  obtain ⟨oc, od, dV, kV, doc, pm, an, cdv, ct, osl, rfl, lk, hcd, _, _⟩ := F.ex
  obtain ⟨c, rfl⟩ := He.codeIn_ref hcd
  have hcT : (He.cT U.K (r.x, none)).1 = c := He.codeOf_eq (p := (r.x, none)) lk rfl
  have rd : cSs 40 r.C (defBody r.st) = some r.fn.body := by
    obtain ⟨b, hb⟩ := Option.isSome_iff_exists.mp hc
    show _ = some r.body
    unfold DRow.body
    rw [hb]; rfl
  refine fn_of (k := 3 * n + 2) lk hcd (scOk_ok hs) (fun vs H Q E h => h.1) fun A outer s H vs Q E hr h => ?_
  refine def_body kn fc (scOk_ok hs) hsc rd hnat hfn rfl rfl hbag (hr.mono (by omega)) (fun x lb hxl A0 kp => ?_) h
  obtain ⟨e, e2⟩ := hl x lb hxl
  subst e e2
  exact lamRule_ok (F := { U.fx n H none A0 r.C.O with kp := kp }) (c := c) (P := (He.cT U.K (r.x, none)).2) rfl hgl (by decide) ed (by rw [hcT] at TB; exact TB) rfl (by show _ ∈ U.T; rw [hT]; exact List.mem_singleton.mpr rfl) (fun p hp _ => by
    have hp : p ∈ U.T := hp
    rw [hT] at hp
    rw [List.mem_singleton.mp hp]
    rfl) hr (en_ok hx hen hcl ho mv mi mz)
/-- the same, its lambdas handed to the def that tells what they give -/
theorem law_okT {r : DRow} {ens : List (Str × List Bool)} (kn : U.knows n r.C.fns) (fc : U.facts r.C.gcs r.C.excs r.C.blts) (F : FunD U.K r.x r.x (defArgs r.st) (defBody r.st) (defScope r.st) [] [] (He.ga U.K r.x) fd) (hsc : r.C.sc = defScope r.st) (hs : scOk r.C.N r.ps (defScope r.st) = true) (hc : (cSs 40 r.C (defBody r.st)).isSome = true)
    (hnat : U.Pg.nat r.id = none) (hfn : U.Pg.fn r.id = some r.fn) (hbag : r.bag = false) (hT : U.T = lawT U.K r.x r.st) (hl : ∀ x lb, r.C.lams.lookup x = some lb → x = "_law_told" ∧ lb = true) (hgl : (defScope r.st).names.lookup ("_law_told" : Str) = some .globalImplicit) (ed : ToldDef U.K U.mg "_law_told" (He.ga U.K "RainError"))
    (TB : LamX.TabB U.base U.mg (He.cT U.K (r.x, none)).1 (He.cT U.K (r.x, none)).2) (hx : exChk U.K ens = true) (hen : U.Pg.en = enOf ens) (hcl : U.cls = clsOf U.K ens) (ho : ∀ c ∈ ownCls, U.mg c = some (.ref (He.ga U.K c))) (mv : U.mg "ValueError" = none) (mi : U.mg "isinstance" = none) (mz : U.mg "zip" = none) :
    FnOk U.P U.w U.K U.mg U.base (L2N.CX U.P U.w) (3 * (n + 1)) (He.ga U.K r.x) fd r.ps (spP U.T U.cls (callP U.Pg (n + 1)) r.C.new U.K r.id r.ps.length) := by
  obtain ⟨oc, od, dV, kV, doc, pm, an, cdv, ct, osl, rfl, lk, hcd, _, _⟩ := F.ex
  obtain ⟨c, rfl⟩ := He.codeIn_ref hcd
  have hcT : (He.cT U.K (r.x, none)).1 = c := He.codeOf_eq (p := (r.x, none)) lk rfl
  have rd : cSs 40 r.C (defBody r.st) = some r.fn.body := by
    obtain ⟨b, hb⟩ := Option.isSome_iff_exists.mp hc
    show _ = some r.body
    unfold DRow.body
    rw [hb]; rfl
  refine fn_of (k := 3 * n + 2) lk hcd (scOk_ok hs) (fun vs H Q E h => h.1) fun A outer s H vs Q E hr h => ?_
  refine def_body kn fc (scOk_ok hs) hsc rd hnat hfn rfl rfl hbag (hr.mono (by omega)) (fun x lb hxl A0 kp => ?_) h
  obtain ⟨e, e2⟩ := hl x lb hxl
  subst e e2
  exact toldRule_ok (F := { U.fx n H none A0 r.C.O with kp := kp }) (c := c) (P := (He.cT U.K (r.x, none)).2) rfl hgl (by decide) ed (by rw [hcT] at TB; exact TB) rfl (by show _ ∈ U.T; rw [hT]; exact List.mem_singleton.mpr rfl) (fun p hp _ => by
    have hp : p ∈ U.T := hp
    rw [hT] at hp
    rw [List.mem_singleton.mp hp]
    rfl) hr (en_ok hx hen hcl ho mv mi mz)
theorem ints_dv {K : PySem.W.Frag} {H : Hp} {A : Addr → Prop} : ∀ ns : List Int, DvAll K H A (ns.map PyData.int) (ns.map V.int)
  | [] => rfl
  | i :: ns => ⟨.int i, ns.map V.int, rfl, rfl, ints_dv ns⟩
/-- what the law's def gives, from what the evaluator says of it -/
theorem sp_law {id : Nat} {H : Hp} {a : Addr} {ns : List Int} {T : List (Addr × Str)} (hp : callP U.Pg (n + 1) id [.list (ns.map PyData.int)] = .ok (.bool true)) (hT : ∀ p ∈ T, H p.1 = some (.tbl #[])) (hS : SqL U.K H a (ns.map V.int)) (hl : ns.length ≤ sizeLine) :
    spP T U.cls (callP U.Pg (n + 1)) false U.K id 1 [.ref a] H (fun v _ => v = .bl true) fun _ _ _ => False := by
  refine ⟨rfl, fun _ => False, [.list (ns.map PyData.int)], fun a h => h.elim, fun p hp => TabS.nil (hT p hp), ?_, ?_⟩
  · exact ⟨.ref a, [], rfl, ⟨a, ns.map V.int, rfl, Lq.mk hS fun z => z, by rw [List.length_map]; exact hl, ints_dv ns⟩, rfl⟩
  · rw [hp]
    intro v H' _ hv _
    exact hv
end
end PD
set_option linter.all false
set_option maxRecDepth 100000
set_option maxHeartbeats 0
namespace PD
open PySem PySem.Spec PyProof.Rows L2
def fin (r : M Fl) : PD.R D := match endD r with
  | .ok (d, _) => .ok d
  | .err c => .err c
  | .stuck => .stuck
theorem callP_row {P : Prog} {n id : Nat} {g : Fn} {ds : List D} (hn : P.nat id = none) (hf : P.fn id = some g) (hb : g.bag = false) (hl : ds.length = g.np) : callP P (n + 1) id ds = fin (evSs (tab P n) g.body (startE g ds) []) := by
  simp only [callP, hn, hf, hb, hl, and_self, if_true]
  rfl
theorem callB_row {P : Prog} {n id : Nat} {g : Fn} {ds : List D} {B : Bg} (hf : P.fn id = some g) (hb : g.bag = true) (hl : ds.length + 1 = g.np) : callB P (n + 1) id ds B = endD (evSs (tab P n) g.body (startE g ds) B) := by
  simp only [callB, hf, hb, hl, and_self, if_true]
  rfl
def L_is_plain : MSs := (.cons (.ret (.andv (.isi (.var 0) .int) (.nt (.isi (.var 0) .bool)))) .nil)
def F_is_plain : Fn := ⟨1, 1, false, false, L_is_plain⟩
def L_is_whole : MSs := (.cons (.ret (.andv (.call 0 (.cons (.var 0) .nil)) (.chain .le .le (.var 1) (.var 0) (.var 2)))) .nil)
def F_is_whole : Fn := ⟨3, 3, false, false, L_is_whole⟩
def L_are_heights : MSs := (.cons (.ret (.andv (.isi (.var 0) .tuple) (.andv (.chain .le .le (.con (.int 3)) (.blt .len (.var 0)) (.con (.int 8))) (.blt .all (.comp (.call 1 (.cons (.var 1) (.cons (.con (.int 0)) (.cons (.con (.int 9)) .nil)))) (.nm 1) (.seq (.var 0)) .no [1]))))) .nil)
def F_are_heights : Fn := ⟨1, 2, false, false, L_are_heights⟩
def L_is_gate : MSs := (.cons (.ife (.orv (.nt (.isi (.var 0) .tuple)) (.orv (.cmp .ne (.blt .len (.var 0)) (.con (.int 3))) (.nt (.call 1 (.cons (.ix (.var 0) (.con (.int 0))) (.cons (.con (.int 0)) (.cons (.bin .sub (.var 1) (.con (.int 1))) .nil))))))) (.cons (.ret (.con (.bool false))) .nil) .nil) (.cons (.ret (.andv (.call 1 (.cons (.ix (.var 0) (.con (.int 1))) (.cons (.con (.int 1)) (.cons (.con (.int 9)) .nil)))) (.isi (.ix (.var 0) (.con (.int 2))) .bool))) .nil))
def F_is_gate : Fn := ⟨2, 2, false, false, L_is_gate⟩
def L_is_land : MSs := (.cons (.ife (.orv (.nt (.isi (.var 0) .tuple)) (.orv (.cmp .ne (.blt .len (.var 0)) (.con (.int 3))) (.nt (.call 2 (.cons (.ix (.var 0) (.con (.int 0))) .nil))))) (.cons (.ret (.con (.bool false))) .nil) .nil) (.cons (.asg (.tp [(.nm 1), (.nm 2), (.nm 3)]) (.var 0)) (.cons (.ife (.orv (.nt (.isi (.var 2) .tuple)) (.orv (.cmp .gt (.blt .len (.var 2)) (.con (.int 3))) (.nt (.blt .all (.comp (.call 3 (.cons (.var 4) (.cons (.blt .len (.var 1)) .nil))) (.nm 4) (.seq (.var 2)) .no [4]))))) (.cons (.ret (.con (.bool false))) .nil) .nil) (.cons (.ife (.nt (.blt .all (.comp (.cmp .lt (.ix (.var 5) (.con (.int 0))) (.ix (.var 6) (.con (.int 0)))) (.tp [(.nm 5), (.nm 6)]) (.zip (.var 2) (.sl (.var 2) (.so (.con (.int 1))) .no)) .no [5, 6]))) (.cons (.ret (.con (.bool false))) .nil) .nil) (.cons (.ife (.orv (.nt (.isi (.var 3) .tuple)) (.orv (.cmp .ne (.blt .len (.var 3)) (.con (.int 2))) (.nt (.blt .all (.comp (.call 1 (.cons (.var 7) (.cons (.con (.int 0)) (.cons (.bin .sub (.blt .len (.var 1)) (.con (.int 1))) .nil)))) (.nm 7) (.seq (.var 3)) .no [7]))))) (.cons (.ret (.con (.bool false))) .nil) .nil) (.cons (.ret (.cmp .le (.ix (.var 3) (.con (.int 0))) (.ix (.var 3) (.con (.int 1))))) .nil))))))
def F_is_land : Fn := ⟨1, 8, false, false, L_is_land⟩
def L_is_step : MSs := (.cons (.ife (.orv (.nt (.isi (.var 1) .tuple)) (.orv (.nt (.chain .le .le (.con (.int 2)) (.blt .len (.var 1)) (.con (.int 3)))) (.nt (.isi (.ix (.var 1) (.con (.int 0))) .str)))) (.cons (.ret (.con (.bool false))) .nil) .nil) (.cons (.ife (.cmp .eq (.blt .len (.var 1)) (.con (.int 3))) (.cons (.ret (.andv (.cmp .eq (.ix (.var 1) (.con (.int 0))) (.con (.str "wait"))) (.andv (.call 1 (.cons (.ix (.var 1) (.con (.int 1))) (.cons (.con (.int 0)) (.cons (.bin .sub (.blt .len (.ix (.var 0) (.con (.int 0)))) (.con (.int 1))) .nil)))) (.call 1 (.cons (.ix (.var 1) (.con (.int 2))) (.cons (.con (.int 0)) (.cons (.con (.int 20)) .nil))))))) .nil) .nil) (.cons (.ret (.andv (.cmp .isin (.ix (.var 1) (.con (.int 0))) (.tup (.cons (.con (.str "open")) (.cons (.con (.str "shut")) .nil)))) (.call 1 (.cons (.ix (.var 1) (.con (.int 1))) (.cons (.con (.int 0)) (.cons (.bin .sub (.blt .len (.ix (.var 0) (.con (.int 1)))) (.con (.int 1))) .nil)))))) .nil)))
def F_is_step : Fn := ⟨2, 2, false, false, L_is_step⟩
def L_fits_script : MSs := (.cons (.ife (.orv (.nt (.isi (.var 1) .tuple)) (.cmp .gt (.blt .len (.var 1)) (.gcon 0))) (.cons (.ret (.con (.bool false))) .nil) .nil) (.cons (.ret (.blt .all (.comp (.call 5 (.cons (.var 0) (.cons (.var 2) .nil))) (.nm 2) (.seq (.var 1)) .no [2]))) .nil))
def F_fits_script : Fn := ⟨2, 3, false, false, L_fits_script⟩
def L_divisor_of : MSs := (.cons (.par 0 1 (.blt .abs (.var 0)) (.blt .abs (.var 1))) (.cons (.whil (.cmp .ne (.var 1) (.con (.int 0))) (.cons (.par 0 1 (.var 1) (.bin .mod (.var 0) (.var 1))) .nil)) (.cons (.ret (.var 0)) .nil)))
def F_divisor_of : Fn := ⟨2, 2, false, false, L_divisor_of⟩
def L_is_amount : MSs := (.cons (.ife (.orv (.nt (.isi (.var 0) .tuple)) (.orv (.cmp .ne (.blt .len (.var 0)) (.con (.int 2))) (.orv (.nt (.call 0 (.cons (.ix (.var 0) (.con (.int 0))) .nil))) (.nt (.call 0 (.cons (.ix (.var 0) (.con (.int 1))) .nil)))))) (.cons (.ret (.con (.bool false))) .nil) .nil) (.cons (.ret (.andv (.cmp .ge (.ix (.var 0) (.con (.int 0))) (.con (.int 0))) (.andv (.cmp .gt (.ix (.var 0) (.con (.int 1))) (.con (.int 0))) (.cmp .eq (.call 7 (.cons (.ix (.var 0) (.con (.int 0))) (.cons (.ix (.var 0) (.con (.int 1))) .nil))) (.con (.int 1)))))) .nil))
def F_is_amount : Fn := ⟨1, 1, false, false, L_is_amount⟩
def L_ground_of : MSs := (.cons (.asg (.nm 3) (.ix (.ix (.var 0) (.con (.int 0))) (.var 2))) (.cons (.forr (.nm 4) (.seq (.var 1)) (.cons (.asg (.nm 3) (.bin .add (.var 3) (.ite (.cmp .eq (.ix (.ix (.ix (.var 0) (.con (.int 1))) (.var 4)) (.con (.int 0))) (.var 2)) (.ix (.ix (.ix (.var 0) (.con (.int 1))) (.var 4)) (.con (.int 1))) (.con (.int 0))))) .nil)) (.cons (.ret (.var 3)) .nil)))
def F_ground_of : Fn := ⟨3, 5, false, false, L_ground_of⟩
def L_first_shut : MSs := (.cons (.ret (.blt .tuple (.comp (.var 1) (.tp [(.nm 1), (.nm 2)]) (.enum (.ix (.var 0) (.con (.int 1)))) (.so (.ix (.var 2) (.con (.int 2)))) [1, 2]))) .nil)
def F_first_shut : Fn := ⟨1, 3, false, false, L_first_shut⟩
def L_need_land : MSs := (.cons (.ife (.nt (.call 4 (.cons (.var 0) .nil))) (.cons (.raise 1) .nil) .nil) .nil)
def F_need_land : Fn := ⟨1, 1, false, false, L_need_land⟩
def L_is_script : MSs := (.cons (.expr (.call 11 (.cons (.var 0) .nil))) (.cons (.ret (.call 6 (.cons (.var 0) (.cons (.var 1) .nil)))) .nil))
def F_is_script : Fn := ⟨2, 2, false, false, L_is_script⟩
def L_grounds : MSs := (.cons (.expr (.call 11 (.cons (.var 0) .nil))) (.cons (.ret (.comp (.call 9 (.cons (.var 0) (.cons (.call 10 (.cons (.var 0) .nil)) (.cons (.var 1) .nil)))) (.nm 1) (.rng1 (.blt .len (.ix (.var 0) (.con (.int 0))))) .no [1])) .nil))
def F_grounds : Fn := ⟨1, 2, false, false, L_grounds⟩
def L__law_cell : MSs := (.cons (.ife (.cmp .lt (.var 1) (.blt .len (.var 0))) (.cons (.ret (.ix (.var 0) (.var 1))) .nil) .nil) (.cons (.ife (.cmp .eq (.blt .len (.var 0)) (.con (.int 0))) (.cons (.ret (.bin .add (.bin .mul (.con (.int 7919)) (.var 1)) (.con (.int 101)))) .nil) .nil) (.cons (.ret (.bin .add (.bin .mod (.ix (.var 0) (.bin .mod (.var 1) (.blt .len (.var 0)))) (.con (.int 1000003))) (.bin .mul (.con (.int 7919)) (.var 1)))) .nil)))
def F__law_cell : Fn := ⟨2, 2, false, false, L__law_cell⟩
def L__law_draws : MSs := (.cons (.asg (.nm 4) (.tup (.cons (.con (.int 2147483647)) (.cons (.con (.int 2147483629)) (.cons (.con (.int 2147483587)) (.cons (.con (.int 2147483579)) (.cons (.con (.int 2147483563)) (.cons (.con (.int 2147483549)) (.cons (.con (.int 2147483543)) (.cons (.con (.int 2147483497)) .nil)))))))))) (.cons (.asg (.nm 5) (.call 14 (.cons (.var 0) (.cons (.var 1) .nil)))) (.cons (.asg (.nm 6) (.con (.int 0))) (.cons (.ife (.cmp .ge (.var 5) (.bin .pow (.con (.int 10)) (.con (.int 18)))) (.cons (.asg (.nm 6) (.var 5)) .nil) .nil) (.cons (.asgO 7 (.lst .nil)) (.cons (.forr (.nm 8) (.rng1 (.var 2)) (.cons (.asg (.nm 9) (.bin .mul (.bin .mod (.var 5) (.ix (.var 4) (.bin .mod (.var 8) (.con (.int 8))))) (.bin .add (.con (.int 48271)) (.bin .mul (.bin .mul (.con (.int 2)) (.var 8)) (.var 8))))) (.cons (.asg (.nm 9) (.bin .add (.bin .add (.var 9) (.bin .mul (.bin .mul (.con (.int 7919)) (.bin .add (.var 8) (.con (.int 1)))) (.bin .add (.var 8) (.con (.int 1))))) (.bin .mul (.con (.int 104729)) (.var 1)))) (.cons (.asg (.nm 9) (.bin .mod (.var 9) (.ix (.var 4) (.bin .mod (.bin .add (.bin .mul (.con (.int 3)) (.var 8)) (.var 1)) (.con (.int 8)))))) (.cons (.asg (.nm 9) (.bin .mod (.bin .mul (.bin .mul (.var 9) (.var 9)) (.var 9)) (.ix (.var 4) (.bin .mod (.bin .add (.var 8) (.con (.int 5))) (.con (.int 8)))))) (.cons (.ife (.cmp .gt (.var 6) (.con (.int 0))) (.cons (.asg (.nm 9) (.var 6)) .nil) .nil) (.cons (.app 7 (.bin .mod (.var 9) (.var 3))) (.cons (.asg (.nm 6) (.bin .fdiv (.var 6) (.var 3))) .nil)))))))) (.cons (.retO 7) .nil)))))))
def F__law_draws : Fn := ⟨4, 10, false, true, L__law_draws⟩
def L__law_bag : MSs := (.cons (.ret (.call 15 (.cons (.var 0) (.cons (.var 1) (.cons (.con (.int 150)) (.cons (.con (.int 27720)) .nil)))))) .nil)
def F__law_bag : Fn := ⟨2, 2, false, true, L__law_bag⟩
def L__law_take : MSs := (.cons (.asg (.nm 2) (.ite (.bagne 0) (.bagpop 0) (.con (.int 0)))) (.cons (.ret (.bin .mod (.blt .int (.var 2)) (.var 1))) .nil))
def F__law_take : Fn := ⟨2, 3, true, false, L__law_take⟩
def L__law_choice : MSs := (.cons (.ret (.ix (.var 1) (.callb 0 17 (.cons (.blt .len (.var 1)) .nil)))) .nil)
def F__law_choice : Fn := ⟨2, 2, true, false, L__law_choice⟩
def L__law_lowest : MSs := (.cons (.par 2 3 (.blt .abs (.var 0)) (.blt .abs (.var 1))) (.cons (.whil (.cmp .ne (.var 3) (.con (.int 0))) (.cons (.par 2 3 (.var 3) (.bin .mod (.var 2) (.var 3))) .nil)) (.cons (.asg (.nm 4) (.ite (.cmp .gt (.var 1) (.con (.int 0))) (.con (.int 1)) (.blt .neg (.con (.int 1))))) (.cons (.ret (.tup (.cons (.bin .fdiv (.bin .mul (.var 4) (.var 0)) (.var 2)) (.cons (.bin .fdiv (.bin .mul (.var 4) (.var 1)) (.var 2)) .nil)))) .nil))))
def F__law_lowest : Fn := ⟨2, 5, false, false, L__law_lowest⟩
def L__law_land : MSs := (.cons (.asg (.nm 1) (.bin .add (.con (.int 3)) (.callb 0 17 (.cons (.con (.int 5)) .nil)))) (.cons (.asg (.nm 2) (.blt .tuple (.comp (.callb 0 18 (.cons (.lst (.cons (.con (.int 0)) (.cons (.con (.int 1)) (.cons (.con (.int 2)) (.cons (.con (.int 3)) (.cons (.con (.int 4)) (.cons (.con (.int 5)) (.cons (.con (.int 9)) (.cons (.con (.int 1)) (.cons (.con (.int 3)) .nil)))))))))) .nil)) (.nm 3) (.rng1 (.var 1)) .no [3]))) (.cons (.asg (.nm 4) (.blt .sset (.comp (.callb 0 17 (.cons (.var 1) .nil)) (.nm 5) (.rng1 (.callb 0 17 (.cons (.con (.int 4)) .nil))) .no [5]))) (.cons (.asg (.nm 6) (.tup .nil)) (.cons (.forr (.nm 3) (.seq (.var 4)) (.cons (.asg (.nm 6) (.bin .add (.var 6) (.tup (.cons (.tup (.cons (.var 3) (.cons (.bin .add (.con (.int 1)) (.callb 0 17 (.cons (.con (.int 5)) .nil))) (.cons (.cmp .eq (.callb 0 17 (.cons (.con (.int 3)) .nil)) (.con (.int 0))) .nil)))) .nil)))) .nil)) (.cons (.par 7 8 (.con (.int 0)) (.bin .sub (.var 1) (.con (.int 1)))) (.cons (.ife (.cmp .eq (.callb 0 17 (.cons (.con (.int 2)) .nil)) (.con (.int 0))) (.cons (.asg (.nm 7) (.callb 0 17 (.cons (.var 1) .nil))) (.cons (.asg (.nm 8) (.bin .add (.var 7) (.callb 0 17 (.cons (.bin .sub (.var 1) (.var 7)) .nil)))) .nil)) .nil) (.cons (.ret (.tup (.cons (.var 2) (.cons (.var 6) (.cons (.tup (.cons (.var 7) (.cons (.var 8) .nil))) .nil))))) .nil))))))))
def F__law_land : Fn := ⟨1, 9, true, false, L__law_land⟩
def L__law_script : MSs := (.cons (.asg (.nm 3) (.tup .nil)) (.cons (.forr (.nm 4) (.rng1 (.callb 0 17 (.cons (.bin .add (.var 2) (.con (.int 1))) .nil))) (.cons (.asg (.nm 5) (.callb 0 17 (.cons (.con (.int 4)) .nil))) (.cons (.ife (.orv (.cmp .lt (.var 5) (.con (.int 2))) (.cmp .eq (.ix (.var 1) (.con (.int 1))) (.tup .nil))) (.cons (.asg (.nm 6) (.callb 0 17 (.cons (.blt .len (.ix (.var 1) (.con (.int 0)))) .nil))) (.cons (.asg (.nm 3) (.bin .add (.var 3) (.tup (.cons (.tup (.cons (.con (.str "wait")) (.cons (.var 6) (.cons (.bin .add (.ix (.ix (.var 1) (.con (.int 0))) (.var 6)) (.callb 0 17 (.cons (.con (.int 4)) .nil))) .nil)))) .nil)))) .nil)) (.cons (.asg (.nm 3) (.bin .add (.var 3) (.tup (.cons (.tup (.cons (.ite (.cmp .eq (.var 5) (.con (.int 2))) (.con (.str "open")) (.con (.str "shut"))) (.cons (.callb 0 17 (.cons (.blt .len (.ix (.var 1) (.con (.int 1)))) .nil)) .nil))) .nil)))) .nil)) .nil))) (.cons (.ret (.var 3)) .nil)))
def F__law_script : Fn := ⟨3, 7, true, false, L__law_script⟩
def L__law_grounds : MSs := (.cons (.asgO 2 (.blt .list (.ix (.var 0) (.con (.int 0))))) (.cons (.forr (.nm 3) (.seq (.var 1)) (.cons (.asg (.tp [(.nm 4), (.nm 5), (.nm 6)]) (.ix (.ix (.var 0) (.con (.int 1))) (.var 3))) (.cons (.setL 2 (.var 4) (.bin .add (.ix (.var 2) (.var 4)) (.var 5))) .nil))) (.cons (.ret (.var 2)) .nil)))
def F__law_grounds : Fn := ⟨2, 7, false, false, L__law_grounds⟩
def L__law_shut : MSs := (.cons (.ret (.comp (.var 1) (.nm 1) (.rng1 (.blt .len (.ix (.var 0) (.con (.int 1))))) (.so (.ix (.ix (.ix (.var 0) (.con (.int 1))) (.var 1)) (.con (.int 2)))) [1])) .nil)
def F__law_shut : Fn := ⟨1, 2, false, false, L__law_shut⟩
def L__law_truly : MSs := (.cons (.ret (.andv (.isi (.var 0) .bool) (.cmp .eq (.var 0) (.var 1)))) .nil)
def F__law_truly : Fn := ⟨2, 2, false, false, L__law_truly⟩
def L__law_whole : MSs := (.cons (.ret (.andv (.isi (.var 0) .int) (.andv (.nt (.isi (.var 0) .bool)) (.chain .le .le (.var 1) (.var 0) (.var 2))))) .nil)
def F__law_whole : Fn := ⟨3, 3, false, false, L__law_whole⟩
def L__law_good : MSs := (.cons (.ife (.orv (.nt (.isi (.var 0) .tuple)) (.orv (.cmp .ne (.blt .len (.var 0)) (.con (.int 3))) (.nt (.isi (.ix (.var 0) (.con (.int 0))) .tuple)))) (.cons (.ret (.con (.bool false))) .nil) .nil) (.cons (.asg (.nm 1) (.blt .len (.ix (.var 0) (.con (.int 0))))) (.cons (.ife (.orv (.nt (.chain .le .le (.con (.int 3)) (.var 1) (.con (.int 8)))) (.cmp .ne (.comp (.var 2) (.nm 2) (.seq (.ix (.var 0) (.con (.int 0)))) (.so (.nt (.call 27 (.cons (.var 2) (.cons (.con (.int 0)) (.cons (.con (.int 9)) .nil)))))) [2]) (.lst .nil))) (.cons (.ret (.con (.bool false))) .nil) .nil) (.cons (.ife (.orv (.nt (.isi (.ix (.var 0) (.con (.int 1))) .tuple)) (.cmp .gt (.blt .len (.ix (.var 0) (.con (.int 1)))) (.con (.int 3)))) (.cons (.ret (.con (.bool false))) .nil) .nil) (.cons (.asg (.nm 3) (.blt .neg (.con (.int 1)))) (.cons (.forr (.nm 4) (.seq (.ix (.var 0) (.con (.int 1)))) (.cons (.ife (.orv (.nt (.isi (.var 4) .tuple)) (.orv (.cmp .ne (.blt .len (.var 4)) (.con (.int 3))) (.nt (.call 27 (.cons (.ix (.var 4) (.con (.int 0))) (.cons (.bin .add (.var 3) (.con (.int 1))) (.cons (.bin .sub (.var 1) (.con (.int 1))) .nil))))))) (.cons (.ret (.con (.bool false))) .nil) .nil) (.cons (.ife (.orv (.nt (.call 27 (.cons (.ix (.var 4) (.con (.int 1))) (.cons (.con (.int 1)) (.cons (.con (.int 9)) .nil))))) (.nt (.isi (.ix (.var 4) (.con (.int 2))) .bool))) (.cons (.ret (.con (.bool false))) .nil) .nil) (.cons (.asg (.nm 3) (.ix (.var 4) (.con (.int 0)))) .nil)))) (.cons (.ife (.orv (.nt (.isi (.ix (.var 0) (.con (.int 2))) .tuple)) (.orv (.cmp .ne (.blt .len (.ix (.var 0) (.con (.int 2)))) (.con (.int 2))) (.nt (.call 27 (.cons (.ix (.ix (.var 0) (.con (.int 2))) (.con (.int 1))) (.cons (.con (.int 0)) (.cons (.bin .sub (.var 1) (.con (.int 1))) .nil))))))) (.cons (.ret (.con (.bool false))) .nil) .nil) (.cons (.ret (.call 27 (.cons (.ix (.ix (.var 0) (.con (.int 2))) (.con (.int 0))) (.cons (.con (.int 0)) (.cons (.ix (.ix (.var 0) (.con (.int 2))) (.con (.int 1))) .nil))))) .nil))))))))
def F__law_good : Fn := ⟨1, 5, false, false, L__law_good⟩
def L__law_good_step : MSs := (.cons (.ife (.orv (.nt (.isi (.var 1) .tuple)) (.orv (.cmp .notin (.blt .len (.var 1)) (.lst (.cons (.con (.int 2)) (.cons (.con (.int 3)) .nil)))) (.nt (.isi (.ix (.var 1) (.con (.int 0))) .str)))) (.cons (.ret (.con (.bool false))) .nil) .nil) (.cons (.ife (.cmp .eq (.blt .len (.var 1)) (.con (.int 3))) (.cons (.ret (.andv (.cmp .eq (.ix (.var 1) (.con (.int 0))) (.con (.str "wait"))) (.andv (.call 27 (.cons (.ix (.var 1) (.con (.int 1))) (.cons (.con (.int 0)) (.cons (.bin .sub (.blt .len (.ix (.var 0) (.con (.int 0)))) (.con (.int 1))) .nil)))) (.call 27 (.cons (.ix (.var 1) (.con (.int 2))) (.cons (.con (.int 0)) (.cons (.con (.int 20)) .nil))))))) .nil) .nil) (.cons (.ret (.andv (.cmp .isin (.ix (.var 1) (.con (.int 0))) (.lst (.cons (.con (.str "open")) (.cons (.con (.str "shut")) .nil)))) (.call 27 (.cons (.ix (.var 1) (.con (.int 1))) (.cons (.con (.int 0)) (.cons (.bin .sub (.blt .len (.ix (.var 0) (.con (.int 1)))) (.con (.int 1))) .nil)))))) .nil)))
def F__law_good_step : Fn := ⟨2, 2, false, false, L__law_good_step⟩
def L__law_good_script : MSs := (.cons (.ife (.orv (.nt (.isi (.var 1) .tuple)) (.cmp .gt (.blt .len (.var 1)) (.con (.int 6)))) (.cons (.ret (.con (.bool false))) .nil) .nil) (.cons (.ret (.cmp .eq (.comp (.var 2) (.nm 2) (.seq (.var 1)) (.so (.nt (.call 29 (.cons (.var 0) (.cons (.var 2) .nil))))) [2]) (.lst .nil))) .nil))
def F__law_good_script : Fn := ⟨2, 3, false, false, L__law_good_script⟩
def L__law_spoilt : MSs := (.cons (.ife (.isi (.var 1) .list) (.cons (.ret (.blt .tuple (.var 1))) .nil) .nil) (.cons (.ife (.andv (.isi (.var 1) .tuple) (.andv (.cmp .ne (.var 1) (.tup .nil)) (.cmp .gt (.callb 0 17 (.cons (.con (.int 5)) .nil)) (.con (.int 0))))) (.cons (.asg (.nm 2) (.callb 0 17 (.cons (.blt .len (.var 1)) .nil))) (.cons (.ret (.bin .add (.bin .add (.sl (.var 1) .no (.so (.var 2))) (.tup (.cons (.callb 0 31 (.cons (.ix (.var 1) (.var 2)) .nil)) .nil))) (.sl (.var 1) (.so (.bin .add (.var 2) (.con (.int 1)))) .no))) .nil)) .nil) (.cons (.asg (.nm 3) (.callb 0 17 (.cons (.con (.int 7)) .nil))) (.cons (.ife (.isi (.var 1) .tuple) (.cons (.asg (.nm 4) (.ix (.lst (.cons (.tup (.cons (.con (.str "open")) (.cons (.con (.int 0)) .nil))) (.cons (.tup (.cons (.con (.str "wait")) (.cons (.con (.int 0)) (.cons (.con (.int 2)) .nil)))) (.cons (.tup (.cons (.con (.int 1)) (.cons (.con (.int 2)) (.cons (.con (.bool true)) .nil)))) (.cons (.con (.int 5)) .nil))))) (.callb 0 17 (.cons (.con (.int 4)) .nil)))) (.cons (.ret (.ix (.lst (.cons (.blt .list (.var 1)) (.cons (.sl (.var 1) (.so (.con (.int 1))) .no) (.cons (.bin .add (.var 1) (.sl (.var 1) (.so (.blt .neg (.con (.int 1)))) .no)) (.cons (.blt .rev (.var 1)) (.cons (.tup .nil) (.cons (.bin .add (.var 1) (.tup (.cons (.var 4) .nil))) (.cons (.con .none) .nil)))))))) (.var 3))) .nil)) .nil) (.cons (.ife (.isi (.var 1) .bool) (.cons (.ret (.ix (.lst (.cons (.nt (.var 1)) (.cons (.blt .int (.var 1)) (.cons (.con .none) (.cons (.con (.str "shut")) (.cons (.con (.int 2)) (.cons (.con (.bool true)) (.cons (.tup (.cons (.var 1) .nil)) .nil)))))))) (.var 3))) .nil) .nil) (.cons (.ife (.isi (.var 1) .int) (.cons (.ret (.ix (.lst (.cons (.bin .add (.var 1) (.con (.int 1))) (.cons (.bin .sub (.var 1) (.con (.int 1))) (.cons (.bin .add (.var 1) (.con (.int 9))) (.cons (.con (.bool true)) (.cons (.con .none) (.cons (.con (.int 0)) (.cons (.con (.str "1")) .nil)))))))) (.var 3))) .nil) .nil) (.cons (.ret (.ix (.lst (.cons (.con (.str "wait")) (.cons (.con (.str "open")) (.cons (.con (.str "shut")) (.cons (.con (.str "close")) (.cons (.con (.str "")) (.cons (.con (.str "wait")) (.cons (.con (.str "Shut")) .nil)))))))) (.var 3))) .nil)))))))
def F__law_spoilt : Fn := ⟨2, 5, true, false, L__law_spoilt⟩
def L_law_k01 : MSs := (.cons (.forr (.nm 1) (.rng1 (.con (.int 7))) (.cons (.setbag 2 16 (.cons (.var 0) (.cons (.var 1) .nil))) (.cons (.asg (.nm 3) (.callb 2 20 .nil)) (.cons (.asg (.nm 4) (.callb 2 21 (.cons (.var 3) (.cons (.con (.int 6)) .nil)))) (.cons (.ife (.orv (.cmp .isnot (.call 4 (.cons (.var 3) .nil)) (.con (.bool true))) (.cmp .ne (.call 13 (.cons (.var 3) .nil)) (.call 22 (.cons (.var 3) (.cons (.call 23 (.cons (.var 3) .nil)) .nil))))) (.cons (.ret (.con (.bool false))) .nil) .nil) (.cons (.asg (.tp [(.nm 5), (.nm 6)]) (.tup (.cons (.var 3) (.cons (.var 4) .nil)))) (.cons (.forr (.nm 7) (.rng1 (.con (.int 16))) (.cons (.asg (.nm 5) (.callb 2 31 (.cons (.ite (.cmp .eq (.bin .mod (.var 7) (.con (.int 3))) (.con (.int 0))) (.var 3) (.var 5)) .nil))) (.cons (.asg (.nm 6) (.callb 2 31 (.cons (.ite (.cmp .eq (.bin .mod (.var 7) (.con (.int 3))) (.con (.int 0))) (.var 4) (.var 6)) .nil))) (.cons (.asg (.nm 8) (.call 28 (.cons (.var 5) .nil))) (.cons (.ife (.nt (.call 26 (.cons (.call 4 (.cons (.var 5) .nil)) (.cons (.var 8) .nil)))) (.cons (.ret (.con (.bool false))) .nil) .nil) (.cons (.ife (.nt (.call 26 (.cons (.call 12 (.cons (.var 3) (.cons (.var 6) .nil))) (.cons (.call 30 (.cons (.var 3) (.cons (.var 6) .nil))) .nil)))) (.cons (.ret (.con (.bool false))) .nil) .nil) (.cons (.ife (.cmp .ne (.lerr (.call 13 (.cons (.var 5) .nil))) (.ite (.var 8) (.con (.str "")) (.con (.str "land value")))) (.cons (.ret (.con (.bool false))) .nil) .nil) (.cons (.ife (.andv (.nt (.var 8)) (.cmp .ne (.lerr (.call 12 (.cons (.var 5) (.cons (.tup .nil) .nil)))) (.con (.str "land value")))) (.cons (.ret (.con (.bool false))) .nil) .nil) .nil)))))))) (.cons (.forr (.nm 9) (.seq (.lst (.cons (.tup (.cons (.con (.int 0)) (.cons (.con (.int 2)) .nil))) (.cons (.tup (.cons (.con (.int 2)) (.cons (.con (.int 4)) .nil))) (.cons (.tup (.cons (.blt .neg (.con (.int 1))) (.cons (.con (.int 2)) .nil))) (.cons (.tup (.cons (.con (.bool true)) (.cons (.con (.int 2)) .nil))) (.cons (.tup (.cons (.con (.int 1)) (.cons (.con (.int 0)) .nil))) (.cons (.tup (.cons (.con (.int 1)) (.cons (.con (.int 2)) (.cons (.con (.int 3)) .nil)))) (.cons (.lst (.cons (.con (.int 1)) (.cons (.con (.int 2)) .nil))) (.cons (.con (.int 1)) (.cons (.con .none) (.cons (.con (.str "1")) .nil)))))))))))) (.cons (.ife (.cmp .isnot (.call 8 (.cons (.var 9) .nil)) (.con (.bool false))) (.cons (.ret (.con (.bool false))) .nil) .nil) .nil)) (.cons (.forr (.nm 9) (.seq (.lst (.cons (.tup (.cons (.con (.int 0)) (.cons (.con (.int 1)) .nil))) (.cons (.tup (.cons (.con (.int 1)) (.cons (.con (.int 1)) .nil))) (.cons (.tup (.cons (.bin .pow (.con (.int 10)) (.con (.int 30))) (.cons (.con (.int 7)) .nil))) (.cons (.tup (.cons (.con (.int 3)) (.cons (.bin .add (.bin .pow (.con (.int 10)) (.con (.int 30))) (.con (.int 1))) .nil))) .nil)))))) (.cons (.ife (.andv (.cmp .eq (.call 19 (.cons (.ix (.var 9) (.con (.int 0))) (.cons (.ix (.var 9) (.con (.int 1))) .nil))) (.var 9)) (.cmp .isnot (.call 8 (.cons (.var 9) .nil)) (.con (.bool true)))) (.cons (.ret (.con (.bool false))) .nil) .nil) .nil)) .nil))))))))) (.cons (.asg (.nm 10) (.tup (.cons (.con (.int 3)) (.cons (.con (.int 0)) (.cons (.con (.int 2)) (.cons (.con (.int 1)) (.cons (.con (.int 4)) .nil))))))) (.cons (.asg (.nm 11) (.lst (.cons (.call 4 (.cons (.tup (.cons (.var 10) (.cons (.tup (.cons (.tup (.cons (.con (.int 2)) (.cons (.con (.int 3)) (.cons (.con (.bool false)) .nil)))) .nil)) (.cons (.tup (.cons (.con (.int 0)) (.cons (.con (.int 4)) .nil))) .nil)))) .nil)) (.cons (.call 4 (.cons (.tup (.cons (.var 10) (.cons (.tup (.cons (.tup (.cons (.con (.int 5)) (.cons (.con (.int 1)) (.cons (.con (.bool true)) .nil)))) .nil)) (.cons (.tup (.cons (.con (.int 0)) (.cons (.con (.int 4)) .nil))) .nil)))) .nil)) .nil)))) (.cons (.asg (.nm 11) (.bin .add (.var 11) (.lst (.cons (.call 4 (.cons (.tup (.cons (.var 10) (.cons (.tup (.cons (.tup (.cons (.con (.int 2)) (.cons (.con (.int 1)) (.cons (.con (.bool true)) .nil)))) (.cons (.tup (.cons (.con (.int 2)) (.cons (.con (.int 1)) (.cons (.con (.bool true)) .nil)))) .nil))) (.cons (.tup (.cons (.con (.int 0)) (.cons (.con (.int 4)) .nil))) .nil)))) .nil)) (.cons (.call 4 (.cons (.tup (.cons (.var 10) (.cons (.tup .nil) (.cons (.tup (.cons (.con (.int 3)) (.cons (.con (.int 2)) .nil))) .nil)))) .nil)) .nil))))) (.cons (.ret (.cmp .eq (.var 11) (.lst (.cons (.con (.bool true)) (.cons (.con (.bool false)) (.cons (.con (.bool false)) (.cons (.con (.bool false)) .nil))))))) .nil)))))
def F_law_k01 : Fn := ⟨1, 12, false, false, L_law_k01⟩
def L_need_script : MSs := (.cons (.ife (.nt (.call 6 (.cons (.var 0) (.cons (.var 1) .nil)))) (.cons (.raise 2) .nil) .nil) .nil)
def F_need_script : Fn := ⟨2, 2, false, false, L_need_script⟩
def L_need_both : MSs := (.cons (.expr (.call 11 (.cons (.var 0) .nil))) (.cons (.expr (.call 33 (.cons (.var 0) (.cons (.var 1) .nil)))) .nil))
def F_need_both : Fn := ⟨2, 2, false, false, L_need_both⟩
def L_need_amount : MSs := (.cons (.ife (.nt (.call 8 (.cons (.var 0) .nil))) (.cons (.raise 3) .nil) .nil) .nil)
def F_need_amount : Fn := ⟨1, 1, false, false, L_need_amount⟩
def L_lowest : MSs := (.cons (.asg (.nm 2) (.call 7 (.cons (.var 0) (.cons (.var 1) .nil)))) (.cons (.ret (.tup (.cons (.bin .fdiv (.var 0) (.var 2)) (.cons (.bin .fdiv (.var 1) (.var 2)) .nil)))) .nil))
def F_lowest : Fn := ⟨2, 3, false, false, L_lowest⟩
def L_plus : MSs := (.cons (.ret (.call 36 (.cons (.bin .add (.bin .mul (.ix (.var 0) (.con (.int 0))) (.ix (.var 1) (.con (.int 1)))) (.bin .mul (.ix (.var 1) (.con (.int 0))) (.ix (.var 0) (.con (.int 1))))) (.cons (.bin .mul (.ix (.var 0) (.con (.int 1))) (.ix (.var 1) (.con (.int 1)))) .nil)))) .nil)
def F_plus : Fn := ⟨2, 2, false, false, L_plus⟩
def L_minus : MSs := (.cons (.ret (.call 36 (.cons (.bin .sub (.bin .mul (.ix (.var 0) (.con (.int 0))) (.ix (.var 1) (.con (.int 1)))) (.bin .mul (.ix (.var 1) (.con (.int 0))) (.ix (.var 0) (.con (.int 1))))) (.cons (.bin .mul (.ix (.var 0) (.con (.int 1))) (.ix (.var 1) (.con (.int 1)))) .nil)))) .nil)
def F_minus : Fn := ⟨2, 2, false, false, L_minus⟩
def L_times : MSs := (.cons (.ret (.call 36 (.cons (.bin .mul (.ix (.var 0) (.con (.int 0))) (.ix (.var 1) (.con (.int 0)))) (.cons (.bin .mul (.ix (.var 0) (.con (.int 1))) (.ix (.var 1) (.con (.int 1)))) .nil)))) .nil)
def F_times : Fn := ⟨2, 2, false, false, L_times⟩
def L_shared : MSs := (.cons (.ret (.call 36 (.cons (.ix (.var 0) (.con (.int 0))) (.cons (.bin .mul (.ix (.var 0) (.con (.int 1))) (.var 1)) .nil)))) .nil)
def F_shared : Fn := ⟨2, 2, false, false, L_shared⟩
def L_quotient : MSs := (.cons (.ret (.call 36 (.cons (.bin .mul (.ix (.var 0) (.con (.int 0))) (.ix (.var 1) (.con (.int 1)))) (.cons (.bin .mul (.ix (.var 0) (.con (.int 1))) (.ix (.var 1) (.con (.int 0)))) .nil)))) .nil)
def F_quotient : Fn := ⟨2, 2, false, false, L_quotient⟩
def L_is_less : MSs := (.cons (.ret (.cmp .lt (.bin .mul (.ix (.var 0) (.con (.int 0))) (.ix (.var 1) (.con (.int 1)))) (.bin .mul (.ix (.var 1) (.con (.int 0))) (.ix (.var 0) (.con (.int 1)))))) .nil)
def F_is_less : Fn := ⟨2, 2, false, false, L_is_less⟩
def L_least : MSs := (.cons (.asg (.nm 1) (.ix (.var 0) (.con (.int 0)))) (.cons (.forr (.nm 2) (.seq (.var 0)) (.cons (.asg (.nm 1) (.ite (.call 42 (.cons (.var 2) (.cons (.var 1) .nil))) (.var 2) (.var 1))) .nil)) (.cons (.ret (.var 1)) .nil)))
def F_least : Fn := ⟨1, 3, false, false, L_least⟩
def L_runs_of : MSs := (.cons (.asgO 1 (.lst .nil)) (.cons (.forr (.nm 2) (.rng1 (.blt .len (.var 0))) (.cons (.ife (.andv (.cmp .ne (.var 1) (.lst .nil)) (.cmp .eq (.ix (.var 0) (.var 2)) (.ix (.var 0) (.bin .sub (.var 2) (.con (.int 1)))))) (.cons (.setL 1 (.blt .neg (.con (.int 1))) (.tup (.cons (.ix (.ix (.var 1) (.blt .neg (.con (.int 1)))) (.con (.int 0))) (.cons (.var 2) .nil)))) .nil) (.cons (.app 1 (.tup (.cons (.var 2) (.cons (.var 2) .nil)))) .nil)) .nil)) (.cons (.ret (.var 1)) .nil)))
def F_runs_of : Fn := ⟨1, 3, false, false, L_runs_of⟩
def L_lower_sides : MSs := (.cons (.asg (.tp [(.nm 2), (.nm 3)]) (.var 1)) (.cons (.asg (.nm 4) (.ix (.var 0) (.var 2))) (.cons (.asg (.nm 5) (.ite (.orv (.cmp .eq (.var 2) (.con (.int 0))) (.call 42 (.cons (.ix (.var 0) (.bin .sub (.var 2) (.con (.int 1)))) (.cons (.var 4) .nil)))) (.lst (.cons (.bin .sub (.var 2) (.con (.int 1))) .nil)) (.lst .nil))) (.cons (.ret (.bin .add (.var 5) (.ite (.orv (.cmp .eq (.bin .add (.var 3) (.con (.int 1))) (.blt .len (.var 0))) (.call 42 (.cons (.ix (.var 0) (.bin .add (.var 3) (.con (.int 1)))) (.cons (.var 4) .nil)))) (.lst (.cons (.bin .add (.var 3) (.con (.int 1))) .nil)) (.lst .nil)))) .nil))))
def F_lower_sides : Fn := ⟨2, 6, false, false, L_lower_sides⟩
def L_highest_first : MSs := (.cons (.asg (.nm 2) (.lst .nil)) (.cons (.forr (.nm 3) (.seq (.var 1)) (.cons (.asg (.nm 4) (.blt .len (.comp (.var 5) (.nm 5) (.seq (.var 2)) (.so (.nt (.call 42 (.cons (.ix (.var 0) (.ix (.var 5) (.con (.int 0)))) (.cons (.ix (.var 0) (.ix (.var 3) (.con (.int 0)))) .nil))))) [5]))) (.cons (.asg (.nm 2) (.bin .add (.bin .add (.sl (.var 2) .no (.so (.var 4))) (.lst (.cons (.var 3) .nil))) (.sl (.var 2) (.so (.var 4)) .no))) .nil))) (.cons (.ret (.var 2)) .nil)))
def F_highest_first : Fn := ⟨2, 6, false, false, L_highest_first⟩
def L_run_with : MSs := (.cons (.ret (.ix (.comp (.var 2) (.nm 2) (.seq (.var 0)) (.so (.chain .le .le (.ix (.var 2) (.con (.int 0))) (.var 1) (.ix (.var 2) (.con (.int 1))))) [2]) (.con (.int 0)))) .nil)
def F_run_with : Fn := ⟨2, 3, false, false, L_run_with⟩
def L_rates : MSs := (.cons (.asg (.nm 2) (.tup .nil)) (.cons (.forr (.tp [(.nm 3), (.nm 4)]) (.seq (.call 48 (.cons (.var 0) (.cons (.var 1) .nil)))) (.cons (.asg (.nm 5) (.bin .sub (.bin .add (.ix (.var 3) (.con (.int 1))) (.con (.int 1))) (.ix (.var 3) (.con (.int 0))))) (.cons (.asg (.nm 6) (.ite (.cmp .ne (.call 45 (.cons (.var 1) (.cons (.var 3) .nil))) (.lst .nil)) (.gcon 1) (.call 40 (.cons (.var 4) (.cons (.var 5) .nil))))) (.cons (.asg (.nm 2) (.bin .add (.var 2) (.bin .mul (.tup (.cons (.var 6) .nil)) (.var 5)))) .nil)))) (.cons (.ret (.var 2)) .nil)))
def F_rates : Fn := ⟨2, 7, false, false, L_rates⟩
def L_risen : MSs := (.cons (.ret (.blt .tuple (.comp (.call 37 (.cons (.var 3) (.cons (.call 39 (.cons (.var 4) (.cons (.var 2) .nil))) .nil))) (.tp [(.nm 3), (.nm 4)]) (.zip (.var 0) (.var 1)) .no [3, 4]))) .nil)
def F_risen : Fn := ⟨3, 5, false, false, L_risen⟩
def L_ground_at : MSs := (.cons (.ret (.tup (.cons (.call 9 (.cons (.var 0) (.cons (.ix (.var 1) (.con (.int 2))) (.cons (.var 2) .nil)))) (.cons (.con (.int 1)) .nil)))) .nil)
def F_ground_at : Fn := ⟨3, 3, false, false, L_ground_at⟩
def L_is_wet : MSs := (.cons (.ret (.call 42 (.cons (.call 51 (.cons (.var 0) (.cons (.var 1) (.cons (.var 2) .nil)))) (.cons (.ix (.ix (.var 1) (.con (.int 1))) (.var 2)) .nil)))) .nil)
def F_is_wet : Fn := ⟨3, 3, false, false, L_is_wet⟩
def L_comes_late : MSs := (.cons (.asg (.nm 4) (.ix (.ix (.ix (.var 0) (.con (.int 1))) (.var 2)) (.con (.int 0)))) (.cons (.ife (.call 52 (.cons (.var 0) (.cons (.var 1) (.cons (.var 4) .nil)))) (.cons (.ret (.con (.bool true))) .nil) .nil) (.cons (.ife (.var 3) (.cons (.ret (.con (.bool false))) .nil) .nil) (.cons (.asg (.nm 5) (.comp (.var 6) (.nm 6) (.seq (.tup (.cons (.bin .sub (.var 4) (.con (.int 1))) (.cons (.bin .add (.var 4) (.con (.int 1))) .nil)))) (.so (.andv (.chain .le .lt (.con (.int 0)) (.var 6) (.blt .len (.ix (.var 0) (.con (.int 0))))) (.call 52 (.cons (.var 0) (.cons (.var 1) (.cons (.var 6) .nil)))))) [6])) (.cons (.ret (.blt .any (.comp (.call 42 (.cons (.tup (.cons (.ix (.ix (.var 0) (.con (.int 0))) (.var 4)) (.cons (.con (.int 1)) .nil))) (.cons (.ix (.ix (.var 1) (.con (.int 1))) (.var 6)) .nil))) (.nm 6) (.seq (.var 5)) .no [6]))) .nil)))))
def F_comes_late : Fn := ⟨4, 7, false, false, L_comes_late⟩
def L_turned : MSs := (.cons (.asg (.tp [(.nm 4), (.nm 5), (.nm 6), (.nm 7), (.nm 8)]) (.var 1)) (.cons (.asg (.nm 9) (.ix (.ix (.ix (.var 0) (.con (.int 1))) (.var 2)) (.con (.int 0)))) (.cons (.asg (.nm 10) (.ite (.var 3) (.blt .tuple (.blt .sorted (.bin .add (.var 6) (.tup (.cons (.var 2) .nil))))) (.blt .tuple (.comp (.var 11) (.nm 11) (.seq (.var 6)) (.so (.cmp .ne (.var 11) (.var 2))) [11])))) (.cons (.asg (.nm 12) (.tup (.cons (.call 9 (.cons (.var 0) (.cons (.var 10) (.cons (.var 9) .nil)))) (.cons (.con (.int 1)) .nil)))) (.cons (.ret (.tup (.cons (.var 4) (.cons (.bin .add (.bin .add (.sl (.var 5) .no (.so (.var 9))) (.tup (.cons (.var 12) .nil))) (.sl (.var 5) (.so (.bin .add (.var 9) (.con (.int 1)))) .no)) (.cons (.var 10) (.cons (.var 7) (.cons (.var 8) .nil))))))) .nil)))))
def F_turned : Fn := ⟨4, 13, false, false, L_turned⟩
def L_stepped : MSs := (.cons (.whil (.andv (.cmp .lt (.ix (.var 2) (.con (.int 3))) (.blt .len (.var 1))) (.nt (.ix (.var 2) (.con (.int 4))))) (.cons (.par 3 4 (.ix (.var 1) (.ix (.var 2) (.con (.int 3)))) (.bin .add (.ix (.var 2) (.con (.int 3))) (.con (.int 1)))) (.cons (.ife (.cmp .eq (.ix (.var 3) (.con (.int 0))) (.con (.str "wait"))) (.cons (.ife (.call 42 (.cons (.ix (.ix (.var 2) (.con (.int 1))) (.ix (.var 3) (.con (.int 1)))) (.cons (.tup (.cons (.ix (.var 3) (.con (.int 2))) (.cons (.con (.int 1)) .nil))) .nil))) (.cons (.ret (.var 2)) .nil) .nil) .nil) (.cons (.ife (.cmp .ne (.cmp .isin (.ix (.var 3) (.con (.int 1))) (.ix (.var 2) (.con (.int 2)))) (.cmp .eq (.ix (.var 3) (.con (.int 0))) (.con (.str "shut")))) (.cons (.ife (.call 53 (.cons (.var 0) (.cons (.var 2) (.cons (.ix (.var 3) (.con (.int 1))) (.cons (.cmp .eq (.ix (.var 3) (.con (.int 0))) (.con (.str "shut"))) .nil))))) (.cons (.ret (.bin .add (.sl (.var 2) .no (.so (.con (.int 4)))) (.tup (.cons (.con (.bool true)) .nil)))) .nil) .nil) (.cons (.asg (.nm 2) (.call 54 (.cons (.var 0) (.cons (.var 2) (.cons (.ix (.var 3) (.con (.int 1))) (.cons (.cmp .eq (.ix (.var 3) (.con (.int 0))) (.con (.str "shut"))) .nil)))))) .nil)) .nil) .nil)) (.cons (.asg (.nm 2) (.bin .add (.sl (.var 2) .no (.so (.con (.int 3)))) (.tup (.cons (.var 4) (.cons (.con (.bool false)) .nil))))) .nil)))) (.cons (.ret (.var 2)) .nil))
def F_stepped : Fn := ⟨3, 5, false, false, L_stepped⟩
def L_waits_of : MSs := (.cons (.ife (.orv (.cmp .eq (.ix (.var 1) (.con (.int 3))) (.blt .len (.var 0))) (.ix (.var 1) (.con (.int 4)))) (.cons (.ret (.lst .nil)) .nil) .nil) (.cons (.ret (.lst (.cons (.sl (.ix (.var 0) (.ix (.var 1) (.con (.int 3)))) (.so (.con (.int 1))) .no) .nil))) .nil))
def F_waits_of : Fn := ⟨2, 2, false, false, L_waits_of⟩
def L_times_left : MSs := (.cons (.asg (.nm 3) (.ix (.var 1) (.con (.int 1)))) (.cons (.asgO 4 (.lst .nil)) (.cons (.forr (.tp [(.nm 5), (.nm 6)]) (.seq (.call 44 (.cons (.var 3) .nil))) (.cons (.ife (.cmp .ne (.ix (.var 2) (.var 5)) (.gcon 1)) (.cons (.asg (.nm 7) (.call 43 (.cons (.lst (.cons (.ix (.var 3) (.bin .sub (.var 5) (.con (.int 1)))) (.cons (.ix (.var 3) (.bin .add (.var 6) (.con (.int 1)))) .nil))) .nil))) (.cons (.app 4 (.call 41 (.cons (.call 38 (.cons (.var 7) (.cons (.ix (.var 3) (.var 5)) .nil))) (.cons (.ix (.var 2) (.var 5)) .nil)))) .nil)) .nil) .nil)) (.cons (.forr (.tp [(.nm 8), (.nm 7)]) (.seq (.call 56 (.cons (.var 0) (.cons (.var 1) .nil)))) (.cons (.ife (.cmp .ne (.ix (.var 2) (.var 8)) (.gcon 1)) (.cons (.app 4 (.call 41 (.cons (.call 38 (.cons (.tup (.cons (.var 7) (.cons (.con (.int 1)) .nil))) (.cons (.ix (.var 3) (.var 8)) .nil))) (.cons (.ix (.var 2) (.var 8)) .nil)))) .nil) .nil) .nil)) (.cons (.ret (.var 4)) .nil)))))
def F_times_left : Fn := ⟨3, 9, false, false, L_times_left⟩
def L_begun : MSs := (.cons (.asg (.nm 3) (.blt .tuple (.comp (.tup (.cons (.call 9 (.cons (.var 0) (.cons (.var 2) (.cons (.var 4) .nil)))) (.cons (.con (.int 1)) .nil))) (.nm 4) (.rng1 (.blt .len (.ix (.var 0) (.con (.int 0))))) .no [4]))) (.cons (.ret (.call 55 (.cons (.var 0) (.cons (.var 1) (.cons (.tup (.cons (.gcon 1) (.cons (.var 3) (.cons (.var 2) (.cons (.con (.int 0)) (.cons (.con (.bool false)) .nil)))))) .nil))))) .nil))
def F_begun : Fn := ⟨3, 5, false, false, L_begun⟩
def L_course_from : MSs := (.cons (.asgO 3 (.lst .nil)) (.cons (.whil (.con (.bool true)) (.cons (.asg (.nm 4) (.call 49 (.cons (.var 0) (.cons (.ix (.var 2) (.con (.int 1))) .nil)))) (.cons (.app 3 (.tup (.cons (.var 2) (.cons (.var 4) .nil)))) (.cons (.asg (.nm 5) (.call 57 (.cons (.var 1) (.cons (.var 2) (.cons (.var 4) .nil))))) (.cons (.ife (.cmp .eq (.var 5) (.lst .nil)) (.cons (.ret (.var 3)) .nil) .nil) (.cons (.asg (.nm 6) (.call 43 (.cons (.var 5) .nil))) (.cons (.asg (.nm 7) (.bin .add (.tup (.cons (.call 37 (.cons (.ix (.var 2) (.con (.int 0))) (.cons (.var 6) .nil))) (.cons (.call 50 (.cons (.ix (.var 2) (.con (.int 1))) (.cons (.var 4) (.cons (.var 6) .nil)))) .nil))) (.sl (.var 2) (.so (.con (.int 2))) .no))) (.cons (.asg (.nm 2) (.call 55 (.cons (.var 0) (.cons (.var 1) (.cons (.var 7) .nil))))) .nil)))))))) .nil))
def F_course_from : Fn := ⟨3, 8, false, false, L_course_from⟩
def L_course : MSs := (.cons (.ret (.call 59 (.cons (.var 0) (.cons (.var 1) (.cons (.call 58 (.cons (.var 0) (.cons (.var 1) (.cons (.call 10 (.cons (.var 0) .nil)) .nil)))) .nil))))) .nil)
def F_course : Fn := ⟨2, 2, false, false, L_course⟩
def L_state_then : MSs := (.cons (.asg (.tp [(.nm 2), (.nm 3)]) (.ix (.comp (.var 4) (.nm 4) (.seq (.var 0)) (.so (.nt (.call 42 (.cons (.var 1) (.cons (.ix (.ix (.var 4) (.con (.int 0))) (.con (.int 0))) .nil))))) [4]) (.blt .neg (.con (.int 1))))) (.cons (.ret (.bin .add (.tup (.cons (.var 1) (.cons (.call 50 (.cons (.ix (.var 2) (.con (.int 1))) (.cons (.var 3) (.cons (.call 38 (.cons (.var 1) (.cons (.ix (.var 2) (.con (.int 0))) .nil))) .nil)))) .nil))) (.sl (.var 2) (.so (.con (.int 2))) .no))) .nil))
def F_state_then : Fn := ⟨2, 5, false, false, L_state_then⟩
def L_at_amount : MSs := (.cons (.ret (.call 61 (.cons (.call 60 (.cons (.var 0) (.cons (.var 1) .nil))) (.cons (.var 2) .nil)))) .nil)
def F_at_amount : Fn := ⟨3, 3, false, false, L_at_amount⟩
def L_wet_at : MSs := (.cons (.ret (.comp (.var 2) (.nm 2) (.rng1 (.blt .len (.ix (.var 0) (.con (.int 0))))) (.so (.call 52 (.cons (.var 0) (.cons (.var 1) (.cons (.var 2) .nil))))) [2])) .nil)
def F_wet_at : Fn := ⟨2, 3, false, false, L_wet_at⟩
def L_need_all : MSs := (.cons (.expr (.call 34 (.cons (.var 0) (.cons (.var 1) .nil)))) (.cons (.expr (.call 35 (.cons (.var 2) .nil))) .nil))
def F_need_all : Fn := ⟨3, 3, false, false, L_need_all⟩
def L_surfaces : MSs := (.cons (.expr (.call 64 (.cons (.var 0) (.cons (.var 1) (.cons (.var 2) .nil))))) (.cons (.ret (.blt .list (.ix (.call 62 (.cons (.var 0) (.cons (.var 1) (.cons (.var 2) .nil)))) (.con (.int 1))))) .nil))
def F_surfaces : Fn := ⟨3, 3, false, false, L_surfaces⟩
def L_wet : MSs := (.cons (.expr (.call 64 (.cons (.var 0) (.cons (.var 1) (.cons (.var 2) .nil))))) (.cons (.ret (.call 63 (.cons (.var 0) (.cons (.call 62 (.cons (.var 0) (.cons (.var 1) (.cons (.var 2) .nil)))) .nil)))) .nil))
def F_wet : Fn := ⟨3, 3, false, false, L_wet⟩
def L_word_of : MSs := (.cons (.ife (.cmp .eq (.var 2) (.gcon 1)) (.cons (.ret (.con (.str "still"))) .nil) .nil) (.cons (.asg (.nm 3) (.call 45 (.cons (.var 0) (.cons (.var 1) .nil)))) (.cons (.ife (.cmp .eq (.blt .len (.var 3)) (.con (.int 2))) (.cons (.ret (.con (.str "both"))) .nil) .nil) (.cons (.ret (.ite (.cmp .eq (.var 3) (.lst .nil)) (.con (.str "rises")) (.ite (.cmp .lt (.ix (.var 3) (.con (.int 0))) (.ix (.var 1) (.con (.int 0)))) (.con (.str "left")) (.con (.str "right"))))) .nil))))
def F_word_of : Fn := ⟨3, 4, false, false, L_word_of⟩
def L_runs : MSs := (.cons (.expr (.call 64 (.cons (.var 0) (.cons (.var 1) (.cons (.var 2) .nil))))) (.cons (.asg (.nm 3) (.ix (.call 62 (.cons (.var 0) (.cons (.var 1) (.cons (.var 2) .nil)))) (.con (.int 1)))) (.cons (.ret (.comp (.tup (.cons (.ix (.var 4) (.con (.int 0))) (.cons (.ix (.var 4) (.con (.int 1))) (.cons (.call 67 (.cons (.var 3) (.cons (.var 4) (.cons (.var 5) .nil)))) .nil)))) (.tp [(.nm 4), (.nm 5)]) (.seq (.call 48 (.cons (.var 0) (.cons (.var 3) .nil)))) .no [4, 5])) .nil)))
def F_runs : Fn := ⟨3, 6, false, false, L_runs⟩
def L_steps_done : MSs := (.cons (.expr (.call 64 (.cons (.var 0) (.cons (.var 1) (.cons (.var 2) .nil))))) (.cons (.ret (.sl (.call 62 (.cons (.var 0) (.cons (.var 1) (.cons (.var 2) .nil)))) (.so (.con (.int 3))) .no)) .nil))
def F_steps_done : Fn := ⟨3, 3, false, false, L_steps_done⟩
def L__law_some : MSs := (.cons (.asgO 2 (.lst (.cons (.tup (.cons (.con (.int 0)) (.cons (.con (.int 1)) .nil))) (.cons (.tup (.cons (.con (.int 1)) (.cons (.con (.int 4)) .nil))) (.cons (.tup (.cons (.con (.int 1)) (.cons (.con (.int 2)) .nil))) (.cons (.tup (.cons (.con (.int 1)) (.cons (.con (.int 1)) .nil))) (.cons (.tup (.cons (.con (.int 4)) (.cons (.con (.int 3)) .nil))) (.cons (.tup (.cons (.con (.int 5)) (.cons (.con (.int 2)) .nil))) (.cons (.tup (.cons (.con (.int 7)) (.cons (.con (.int 1)) .nil))) (.cons (.tup (.cons (.con (.int 100)) (.cons (.con (.int 1)) .nil))) .nil)))))))))) (.cons (.forr (.tp [(.nm 3), (.nm 4)]) (.seq (.var 1)) (.cons (.ife (.cmp .gt (.var 4) (.con (.int 0))) (.cons (.asgO 2 (.bin .add (.var 2) (.lst (.cons (.tup (.cons (.var 3) (.cons (.var 4) .nil))) (.cons (.call 19 (.cons (.bin .add (.bin .mul (.var 3) (.bin .pow (.con (.int 10)) (.con (.int 6)))) (.con (.int 1))) (.cons (.bin .mul (.var 4) (.bin .pow (.con (.int 10)) (.con (.int 6)))) .nil))) .nil))))) (.cons (.asgO 2 (.bin .add (.var 2) (.ite (.cmp .gt (.var 3) (.con (.int 0))) (.lst (.cons (.call 19 (.cons (.bin .sub (.bin .mul (.var 3) (.bin .pow (.con (.int 10)) (.con (.int 6)))) (.con (.int 1))) (.cons (.bin .mul (.var 4) (.bin .pow (.con (.int 10)) (.con (.int 6)))) .nil))) .nil)) (.lst .nil)))) .nil)) .nil) .nil)) (.cons (.forr (.nm 5) (.rng1 (.con (.int 4))) (.cons (.app 2 (.call 19 (.cons (.callb 0 17 (.cons (.con (.int 200)) .nil)) (.cons (.bin .add (.con (.int 1)) (.callb 0 17 (.cons (.con (.int 30)) .nil))) .nil)))) .nil)) (.cons (.ret (.var 2)) .nil))))
def F__law_some : Fn := ⟨2, 6, true, false, L__law_some⟩
def L_need_number : MSs := (.cons (.ife (.nt (.call 1 (.cons (.var 0) (.cons (.var 1) (.cons (.var 2) .nil))))) (.cons (.raise 4) .nil) .nil) .nil)
def F_need_number : Fn := ⟨3, 3, false, false, L_need_number⟩
def L_pieces_of : MSs := (.cons (.asg (.nm 1) (.bin .add (.comp (.ix (.var 2) (.con (.int 0))) (.tp [(.nm 2), (.nm 3)]) (.seq (.sl (.var 0) (.so (.con (.int 1))) .no)) .no [2, 3]) (.lst (.cons (.gcon 2) .nil)))) (.cons (.ret (.comp (.tup (.cons (.var 2) (.cons (.var 3) (.cons (.var 4) .nil)))) (.tp [(.tp [(.nm 2), (.nm 3)]), (.nm 4)]) (.zip (.var 0) (.var 1)) .no [2, 3, 4])) .nil))
def F_pieces_of : Fn := ⟨1, 5, false, false, L_pieces_of⟩
def L_line_of : MSs := (.cons (.asg (.nm 3) (.ix (.var 1) (.var 2))) (.cons (.ret (.tup (.cons (.call 38 (.cons (.ix (.ix (.var 0) (.con (.int 1))) (.var 2)) (.cons (.call 39 (.cons (.var 3) (.cons (.ix (.var 0) (.con (.int 0))) .nil))) .nil))) (.cons (.var 3) .nil)))) .nil))
def F_line_of : Fn := ⟨3, 4, false, false, L_line_of⟩
def L_form_of : MSs := (.cons (.asg (.tp [(.nm 1), (.nm 2)]) (.var 0)) (.cons (.asg (.nm 3) (.bin .fdiv (.bin .mul (.ix (.var 1) (.con (.int 1))) (.ix (.var 2) (.con (.int 1)))) (.call 90 (.cons (.ix (.var 1) (.con (.int 1))) (.cons (.ix (.var 2) (.con (.int 1))) .nil))))) (.cons (.ret (.tup (.cons (.bin .mul (.ix (.var 1) (.con (.int 0))) (.bin .fdiv (.var 3) (.ix (.var 1) (.con (.int 1))))) (.cons (.bin .mul (.ix (.var 2) (.con (.int 0))) (.bin .fdiv (.var 3) (.ix (.var 2) (.con (.int 1))))) (.cons (.var 3) .nil))))) .nil)))
def F_form_of : Fn := ⟨1, 4, false, false, L_form_of⟩
def L_lowest_common : MSs := (.cons (.ret (.bin .fdiv (.var 0) (.ix (.call 36 (.cons (.var 0) (.cons (.var 1) .nil))) (.con (.int 0))))) .nil)
def F_lowest_common : Fn := ⟨2, 2, false, false, L_lowest_common⟩
def L_level_forms : MSs := (.cons (.expr (.call 34 (.cons (.var 0) (.cons (.var 1) .nil)))) (.cons (.expr (.call 86 (.cons (.var 2) (.cons (.con (.int 0)) (.cons (.bin .sub (.blt .len (.ix (.var 0) (.con (.int 0)))) (.con (.int 1))) .nil))))) (.cons (.asgO 3 (.lst .nil)) (.cons (.forr (.tp [(.nm 4), (.nm 5), (.nm 6)]) (.seq (.call 87 (.cons (.call 60 (.cons (.var 0) (.cons (.var 1) .nil))) .nil))) (.cons (.asg (.nm 7) (.call 89 (.cons (.call 88 (.cons (.var 4) (.cons (.var 5) (.cons (.var 2) .nil)))) .nil))) (.cons (.ife (.andv (.cmp .ne (.var 3) (.lst .nil)) (.cmp .eq (.ix (.ix (.var 3) (.blt .neg (.con (.int 1)))) (.con (.int 1))) (.var 7))) (.cons (.setL 3 (.blt .neg (.con (.int 1))) (.tup (.cons (.bin .add (.sl (.ix (.ix (.var 3) (.blt .neg (.con (.int 1)))) (.con (.int 0))) .no (.so (.con (.int 2)))) (.tup (.cons (.var 6) (.cons (.con (.bool false)) .nil)))) (.cons (.var 7) .nil)))) .nil) (.cons (.app 3 (.tup (.cons (.tup (.cons (.ix (.var 4) (.con (.int 0))) (.cons (.con (.bool true)) (.cons (.var 6) (.cons (.con (.bool false)) .nil))))) (.cons (.var 7) .nil)))) .nil)) .nil))) (.cons (.ret (.var 3)) .nil)))))
def F_level_forms : Fn := ⟨3, 8, false, false, L_level_forms⟩
def L_range_of : MSs := (.cons (.asg (.tp [(.nm 1), (.nm 2)]) (.var 0)) (.cons (.ret (.tup (.cons (.var 1) (.cons (.cmp .eq (.var 1) (.var 2)) (.cons (.var 2) (.cons (.cmp .eq (.var 1) (.var 2)) .nil)))))) .nil))
def F_range_of : Fn := ⟨1, 3, false, false, L_range_of⟩
def L_joined_rows : MSs := (.cons (.asgO 1 (.lst .nil)) (.cons (.forr (.tp [(.nm 2), (.nm 3)]) (.seq (.var 0)) (.cons (.asg (.nm 4) (.call 97 (.cons (.var 2) .nil))) (.cons (.ife (.andv (.cmp .ne (.var 1) (.lst .nil)) (.cmp .eq (.ix (.ix (.var 1) (.blt .neg (.con (.int 1)))) (.con (.int 1))) (.var 3))) (.cons (.asg (.nm 5) (.ix (.ix (.var 1) (.blt .neg (.con (.int 1)))) (.con (.int 0)))) (.cons (.setL 1 (.blt .neg (.con (.int 1))) (.tup (.cons (.bin .add (.sl (.var 5) .no (.so (.con (.int 2)))) (.sl (.var 4) (.so (.con (.int 2))) .no)) (.cons (.var 3) .nil)))) .nil)) (.cons (.app 1 (.tup (.cons (.var 4) (.cons (.var 3) .nil)))) .nil)) .nil))) (.cons (.ret (.var 1)) .nil)))
def F_joined_rows : Fn := ⟨1, 6, false, false, L_joined_rows⟩
def L_in_order : MSs := (.cons (.asg (.nm 1) (.lst .nil)) (.cons (.forr (.nm 2) (.seq (.blt .sset (.var 0))) (.cons (.asg (.nm 3) (.blt .len (.comp (.var 4) (.nm 4) (.seq (.var 1)) (.so (.call 42 (.cons (.var 4) (.cons (.var 2) .nil)))) [4]))) (.cons (.asg (.nm 1) (.bin .add (.bin .add (.sl (.var 1) .no (.so (.var 3))) (.lst (.cons (.var 2) .nil))) (.sl (.var 1) (.so (.var 3)) .no))) .nil))) (.cons (.ret (.var 1)) .nil)))
def F_in_order : Fn := ⟨1, 5, false, false, L_in_order⟩
def L_parts_between : MSs := (.cons (.par 3 4 (.lst (.cons (.tup (.cons (.var 0) (.cons (.var 0) .nil))) .nil)) (.var 0)) (.cons (.forr (.nm 5) (.seq (.call 99 (.cons (.comp (.var 6) (.nm 6) (.seq (.var 2)) (.so (.andv (.call 42 (.cons (.var 0) (.cons (.var 6) .nil))) (.call 42 (.cons (.var 6) (.cons (.var 1) .nil))))) [6]) .nil))) (.cons (.asg (.nm 3) (.bin .add (.var 3) (.lst (.cons (.tup (.cons (.var 4) (.cons (.var 5) .nil))) (.cons (.tup (.cons (.var 5) (.cons (.var 5) .nil))) .nil))))) (.cons (.asg (.nm 4) (.var 5)) .nil))) (.cons (.ret (.bin .add (.var 3) (.lst (.cons (.tup (.cons (.var 4) (.cons (.var 1) .nil))) .nil)))) .nil)))
def F_parts_between : Fn := ⟨3, 7, false, false, L_parts_between⟩
def L_done_ranges : MSs := (.cons (.expr (.call 34 (.cons (.var 0) (.cons (.var 1) .nil)))) (.cons (.asg (.nm 2) (.lst .nil)) (.cons (.forr (.tp [(.nm 3), (.nm 4), (.nm 5)]) (.seq (.call 87 (.cons (.call 60 (.cons (.var 0) (.cons (.var 1) .nil))) .nil))) (.cons (.asg (.nm 2) (.bin .add (.var 2) (.comp (.tup (.cons (.var 6) (.cons (.sl (.var 3) (.so (.con (.int 3))) .no) .nil))) (.nm 6) (.seq (.call 100 (.cons (.ix (.var 3) (.con (.int 0))) (.cons (.var 5) (.cons (.lst .nil) .nil))))) .no [6]))) .nil)) (.cons (.ret (.call 98 (.cons (.var 2) .nil))) .nil))))
def F_done_ranges : Fn := ⟨2, 7, false, false, L_done_ranges⟩
def L_ranges_true : MSs := (.cons (.ret (.comp (.var 1) (.tp [(.nm 1), (.nm 2)]) (.seq (.call 98 (.cons (.var 0) .nil))) (.so (.var 2)) [1, 2])) .nil)
def F_ranges_true : Fn := ⟨1, 3, false, false, L_ranges_true⟩
def L_cut_where : MSs := (.cons (.ife (.cmp .eq (.ix (.var 1) (.var 2)) (.gcon 1)) (.cons (.ret (.lst .nil)) .nil) .nil) (.cons (.asg (.nm 4) (.call 41 (.cons (.call 38 (.cons (.var 3) (.cons (.ix (.ix (.var 0) (.con (.int 1))) (.var 2)) .nil))) (.cons (.ix (.var 1) (.var 2)) .nil)))) (.cons (.ret (.ite (.cmp .gt (.ix (.var 4) (.con (.int 0))) (.con (.int 0))) (.lst (.cons (.call 37 (.cons (.ix (.var 0) (.con (.int 0))) (.cons (.var 4) .nil))) .nil)) (.lst .nil))) .nil)))
def F_cut_where : Fn := ⟨4, 5, false, false, L_cut_where⟩
def L_middle : MSs := (.cons (.asg (.tp [(.nm 1), (.nm 2)]) (.var 0)) (.cons (.ife (.cmp .eq (.var 1) (.var 2)) (.cons (.ret (.var 1)) .nil) .nil) (.cons (.ret (.ite (.cmp .eq (.ix (.var 2) (.con (.int 1))) (.con (.int 0))) (.call 37 (.cons (.var 1) (.cons (.tup (.cons (.con (.int 1)) (.cons (.con (.int 1)) .nil))) .nil))) (.call 40 (.cons (.call 37 (.cons (.var 1) (.cons (.var 2) .nil))) (.cons (.con (.int 2)) .nil))))) .nil)))
def F_middle : Fn := ⟨1, 3, false, false, L_middle⟩
def L_wet_parts : MSs := (.cons (.asg (.nm 3) (.call 60 (.cons (.var 0) (.cons (.var 1) .nil)))) (.cons (.asgO 4 (.lst .nil)) (.cons (.forr (.tp [(.nm 5), (.nm 6), (.nm 7)]) (.seq (.call 87 (.cons (.var 3) .nil))) (.cons (.asg (.nm 8) (.call 106 (.cons (.var 5) (.cons (.var 6) (.cons (.var 2) (.cons (.call 51 (.cons (.var 0) (.cons (.var 5) (.cons (.var 2) .nil)))) .nil)))))) (.cons (.forr (.nm 9) (.seq (.call 100 (.cons (.ix (.var 5) (.con (.int 0))) (.cons (.var 7) (.cons (.var 8) .nil))))) (.cons (.app 4 (.tup (.cons (.var 9) (.cons (.call 52 (.cons (.var 0) (.cons (.call 61 (.cons (.var 3) (.cons (.call 107 (.cons (.var 9) .nil)) .nil))) (.cons (.var 2) .nil)))) .nil)))) .nil)) .nil))) (.cons (.ret (.var 4)) .nil))))
def F_wet_parts : Fn := ⟨3, 10, false, false, L_wet_parts⟩
def L_wet_ranges : MSs := (.cons (.expr (.call 34 (.cons (.var 0) (.cons (.var 1) .nil)))) (.cons (.expr (.call 86 (.cons (.var 2) (.cons (.con (.int 0)) (.cons (.bin .sub (.blt .len (.ix (.var 0) (.con (.int 0)))) (.con (.int 1))) .nil))))) (.cons (.ret (.call 105 (.cons (.call 108 (.cons (.var 0) (.cons (.var 1) (.cons (.var 2) .nil)))) .nil))) .nil)))
def F_wet_ranges : Fn := ⟨3, 3, false, false, L_wet_ranges⟩
def L_are_joined : MSs := (.cons (.ife (.orv (.nt (.call 52 (.cons (.var 0) (.cons (.var 1) (.cons (.var 2) .nil))))) (.nt (.call 52 (.cons (.var 0) (.cons (.var 1) (.cons (.var 3) .nil)))))) (.cons (.ret (.con (.bool false))) .nil) .nil) (.cons (.asg (.nm 4) (.call 44 (.cons (.ix (.var 1) (.con (.int 1))) .nil))) (.cons (.ret (.cmp .eq (.call 47 (.cons (.var 4) (.cons (.var 2) .nil))) (.call 47 (.cons (.var 4) (.cons (.var 3) .nil))))) .nil)))
def F_are_joined : Fn := ⟨4, 5, false, false, L_are_joined⟩
def L_joined : MSs := (.cons (.expr (.call 34 (.cons (.var 0) (.cons (.var 1) .nil)))) (.cons (.expr (.call 86 (.cons (.var 2) (.cons (.con (.int 0)) (.cons (.bin .sub (.blt .len (.ix (.var 0) (.con (.int 0)))) (.con (.int 1))) .nil))))) (.cons (.expr (.call 86 (.cons (.var 3) (.cons (.con (.int 0)) (.cons (.bin .sub (.blt .len (.ix (.var 0) (.con (.int 0)))) (.con (.int 1))) .nil))))) (.cons (.asg (.nm 4) (.call 60 (.cons (.var 0) (.cons (.var 1) .nil)))) (.cons (.asgO 5 (.lst .nil)) (.cons (.forr (.tp [(.nm 6), (.nm 7), (.nm 8)]) (.seq (.call 87 (.cons (.var 4) .nil))) (.cons (.asg (.nm 9) (.call 106 (.cons (.var 6) (.cons (.var 7) (.cons (.var 2) (.cons (.call 51 (.cons (.var 0) (.cons (.var 6) (.cons (.var 2) .nil)))) .nil)))))) (.cons (.asg (.nm 9) (.bin .add (.var 9) (.call 106 (.cons (.var 6) (.cons (.var 7) (.cons (.var 3) (.cons (.call 51 (.cons (.var 0) (.cons (.var 6) (.cons (.var 3) .nil)))) .nil))))))) (.cons (.forr (.nm 10) (.seq (.call 100 (.cons (.ix (.var 6) (.con (.int 0))) (.cons (.var 8) (.cons (.var 9) .nil))))) (.cons (.app 5 (.tup (.cons (.var 10) (.cons (.call 110 (.cons (.var 0) (.cons (.call 61 (.cons (.var 4) (.cons (.call 107 (.cons (.var 10) .nil)) .nil))) (.cons (.var 2) (.cons (.var 3) .nil))))) .nil)))) .nil)) .nil)))) (.cons (.ret (.call 105 (.cons (.var 5) .nil))) .nil)))))))
def F_joined : Fn := ⟨4, 11, false, false, L_joined⟩
def L_lines_then : MSs := (.cons (.asg (.tp [(.nm 3), (.nm 4), (.nm 5)]) (.ix (.comp (.var 6) (.nm 6) (.seq (.var 0)) (.so (.nt (.call 42 (.cons (.var 1) (.cons (.ix (.ix (.var 6) (.con (.int 0))) (.con (.int 0))) .nil))))) [6]) (.blt .neg (.con (.int 1))))) (.cons (.ret (.comp (.call 88 (.cons (.var 3) (.cons (.var 4) (.cons (.var 7) .nil)))) (.nm 7) (.rng1 (.var 2)) .no [7])) .nil))
def F_lines_then : Fn := ⟨3, 8, false, false, L_lines_then⟩
def L_parted_at : MSs := (.cons (.par 3 4 (.call 87 (.cons (.call 60 (.cons (.var 0) (.cons (.var 1) .nil))) .nil)) (.call 87 (.cons (.call 60 (.cons (.var 0) (.cons (.var 2) .nil))) .nil))) (.cons (.forr (.nm 5) (.seq (.call 99 (.cons (.comp (.ix (.ix (.var 6) (.con (.int 0))) (.con (.int 0))) (.nm 6) (.seq (.bin .add (.var 3) (.var 4))) .no [6]) .nil))) (.cons (.ife (.cmp .ne (.call 116 (.cons (.var 3) (.cons (.var 5) (.cons (.blt .len (.ix (.var 0) (.con (.int 0)))) .nil)))) (.call 116 (.cons (.var 4) (.cons (.var 5) (.cons (.blt .len (.ix (.var 0) (.con (.int 0)))) .nil))))) (.cons (.ret (.var 5)) .nil) .nil) .nil)) (.cons (.ret (.con .none)) .nil)))
def F_parted_at : Fn := ⟨3, 7, false, false, L_parted_at⟩
def L_need_two : MSs := (.cons (.expr (.call 34 (.cons (.var 0) (.cons (.var 1) .nil)))) (.cons (.expr (.call 33 (.cons (.var 0) (.cons (.var 2) .nil)))) .nil))
def F_need_two : Fn := ⟨3, 3, false, false, L_need_two⟩
def L_parting : MSs := (.cons (.expr (.call 118 (.cons (.var 0) (.cons (.var 1) (.cons (.var 2) .nil))))) (.cons (.ret (.call 117 (.cons (.var 0) (.cons (.var 1) (.cons (.var 2) .nil))))) .nil))
def F_parting : Fn := ⟨3, 3, false, false, L_parting⟩
def L_idle_steps : MSs := (.cons (.expr (.call 34 (.cons (.var 0) (.cons (.var 1) .nil)))) (.cons (.asgO 2 (.lst .nil)) (.cons (.forr (.nm 3) (.rng1 (.blt .len (.var 1))) (.cons (.ife (.cmp .is (.call 117 (.cons (.var 0) (.cons (.var 1) (.cons (.bin .add (.sl (.var 1) .no (.so (.var 3))) (.sl (.var 1) (.so (.bin .add (.var 3) (.con (.int 1)))) .no)) .nil)))) (.con .none)) (.cons (.app 2 (.var 3)) .nil) .nil) .nil)) (.cons (.ret (.var 2)) .nil))))
def F_idle_steps : Fn := ⟨2, 4, false, false, L_idle_steps⟩
def L_dry_in : MSs := (.cons (.forr (.tp [(.nm 3), (.nm 4), (.nm 5)]) (.seq (.call 87 (.cons (.var 1) .nil))) (.cons (.ife (.cmp .gt (.ix (.ix (.var 4) (.var 2)) (.con (.int 0))) (.con (.int 0))) (.cons (.asg (.nm 6) (.call 106 (.cons (.var 3) (.cons (.var 4) (.cons (.var 2) (.cons (.call 51 (.cons (.var 0) (.cons (.var 3) (.cons (.var 2) .nil)))) .nil)))))) (.cons (.ret (.ite (.cmp .ne (.var 6) (.lst .nil)) (.ix (.var 6) (.con (.int 0))) (.ix (.var 3) (.con (.int 0))))) .nil)) .nil) (.cons (.ife (.call 52 (.cons (.var 0) (.cons (.var 3) (.cons (.var 2) .nil)))) (.cons (.ret (.ix (.var 3) (.con (.int 0)))) .nil) .nil) .nil))) (.cons (.ret (.con .none)) .nil))
def F_dry_in : Fn := ⟨3, 7, false, false, L_dry_in⟩
def L_dry_until : MSs := (.cons (.expr (.call 34 (.cons (.var 0) (.cons (.var 1) .nil)))) (.cons (.expr (.call 86 (.cons (.var 2) (.cons (.con (.int 0)) (.cons (.bin .sub (.blt .len (.ix (.var 0) (.con (.int 0)))) (.con (.int 1))) .nil))))) (.cons (.ret (.call 128 (.cons (.var 0) (.cons (.call 59 (.cons (.var 0) (.cons (.var 1) (.cons (.call 58 (.cons (.var 0) (.cons (.var 1) (.cons (.call 10 (.cons (.var 0) .nil)) .nil)))) .nil)))) (.cons (.var 2) .nil))))) .nil)))
def F_dry_until : Fn := ⟨3, 3, false, false, L_dry_until⟩
def L_all_lots : MSs := (.cons (.asg (.nm 1) (.lst (.cons (.tup .nil) .nil))) (.cons (.forr (.nm 2) (.rng2 (.con (.int 1)) (.bin .add (.var 0) (.con (.int 1)))) (.cons (.forr (.nm 3) (.seq (.blt .list (.var 1))) (.cons (.ife (.cmp .eq (.blt .len (.var 3)) (.bin .sub (.var 2) (.con (.int 1)))) (.cons (.asg (.nm 1) (.bin .add (.var 1) (.comp (.bin .add (.var 3) (.tup (.cons (.var 4) .nil))) (.nm 4) (.rng2 (.ite (.cmp .ne (.var 3) (.tup .nil)) (.bin .add (.ix (.var 3) (.blt .neg (.con (.int 1)))) (.con (.int 1))) (.con (.int 0))) (.var 0)) .no [4]))) .nil) .nil) .nil)) .nil)) (.cons (.ret (.var 1)) .nil)))
def F_all_lots : Fn := ⟨1, 5, false, false, L_all_lots⟩
def L_least_gates : MSs := (.cons (.expr (.call 11 (.cons (.var 0) .nil))) (.cons (.expr (.call 86 (.cons (.var 1) (.cons (.con (.int 0)) (.cons (.bin .sub (.blt .len (.ix (.var 0) (.con (.int 0)))) (.con (.int 1))) .nil))))) (.cons (.expr (.call 35 (.cons (.var 2) .nil))) (.cons (.asgO 3 (.lst .nil)) (.cons (.forr (.nm 4) (.seq (.call 132 (.cons (.blt .len (.ix (.var 0) (.con (.int 1)))) .nil))) (.cons (.ife (.nt (.blt .any (.comp (.blt .all (.comp (.cmp .isin (.var 5) (.var 4)) (.nm 5) (.seq (.var 6)) .no [5])) (.nm 6) (.seq (.var 3)) .no [6]))) (.cons (.asg (.nm 7) (.call 128 (.cons (.var 0) (.cons (.call 59 (.cons (.var 0) (.cons (.tup .nil) (.cons (.call 58 (.cons (.var 0) (.cons (.tup .nil) (.cons (.var 4) .nil)))) .nil)))) (.cons (.var 1) .nil))))) (.cons (.ife (.orv (.cmp .is (.var 7) (.con .none)) (.nt (.call 42 (.cons (.var 7) (.cons (.var 2) .nil))))) (.cons (.app 3 (.var 4)) .nil) .nil) .nil)) .nil) .nil)) (.cons (.ret (.blt .sorted (.var 3))) .nil))))))
def F_least_gates : Fn := ⟨3, 8, false, false, L_least_gates⟩
def L_need_result : MSs := (.cons (.ife (.nt (.call 4 (.cons (.var 0) .nil))) (.cons (.raise 1) .nil) .nil) .nil)
def F_need_result : Fn := ⟨1, 1, false, false, L_need_result⟩
def L_longer : MSs := (.cons (.asg (.nm 2) (.bin .add (.tup (.cons (.bin .add (.ix (.var 0) (.con (.int 0))) (.tup (.cons (.var 1) .nil))) .nil)) (.sl (.var 0) (.so (.con (.int 1))) .no))) (.cons (.expr (.call 152 (.cons (.var 2) .nil))) (.cons (.ret (.var 2)) .nil)))
def F_longer : Fn := ⟨2, 3, false, false, L_longer⟩
def L_shorter : MSs := (.cons (.expr (.call 86 (.cons (.var 1) (.cons (.con (.int 0)) (.cons (.con (.int 8)) .nil))))) (.cons (.asg (.nm 2) (.sl (.ix (.var 0) (.con (.int 0))) .no (.so (.blt2 .max (.con (.int 0)) (.bin .sub (.blt .len (.ix (.var 0) (.con (.int 0)))) (.var 1)))))) (.cons (.expr (.call 152 (.cons (.bin .add (.tup (.cons (.var 2) .nil)) (.sl (.var 0) (.so (.con (.int 1))) .no)) .nil))) (.cons (.ret (.bin .add (.tup (.cons (.var 2) .nil)) (.sl (.var 0) (.so (.con (.int 1))) .no))) .nil))))
def F_shorter : Fn := ⟨2, 3, false, false, L_shorter⟩
def L_is_wet_ever : MSs := (.cons (.asg (.tp [(.nm 1), (.nm 2)]) (.ix (.call 60 (.cons (.var 0) (.cons (.tup .nil) .nil))) (.blt .neg (.con (.int 1))))) (.cons (.ret (.cmp .ne (.call 63 (.cons (.var 0) (.cons (.var 1) .nil))) (.lst .nil))) .nil))
def F_is_wet_ever : Fn := ⟨1, 3, false, false, L_is_wet_ever⟩
def L__law_mirrored : MSs := (.cons (.asg (.tp [(.nm 2), (.nm 3)]) (.tup (.cons (.bin .sub (.blt .len (.ix (.var 0) (.con (.int 0)))) (.con (.int 1))) (.cons (.blt .len (.ix (.var 0) (.con (.int 1)))) .nil)))) (.cons (.asg (.nm 4) (.blt .tuple (.comp (.tup (.cons (.bin .sub (.var 2) (.var 5)) (.cons (.var 6) (.cons (.var 7) .nil)))) (.tp [(.nm 5), (.nm 6), (.nm 7)]) (.seq (.blt .rev (.ix (.var 0) (.con (.int 1))))) .no [5, 6, 7]))) (.cons (.asg (.nm 8) (.tup .nil)) (.cons (.forr (.nm 9) (.seq (.var 1)) (.cons (.ife (.cmp .eq (.ix (.var 9) (.con (.int 0))) (.con (.str "wait"))) (.cons (.asg (.nm 8) (.bin .add (.var 8) (.tup (.cons (.tup (.cons (.con (.str "wait")) (.cons (.bin .sub (.var 2) (.ix (.var 9) (.con (.int 1)))) (.cons (.ix (.var 9) (.con (.int 2))) .nil)))) .nil)))) .nil) (.cons (.asg (.nm 8) (.bin .add (.var 8) (.tup (.cons (.tup (.cons (.ix (.var 9) (.con (.int 0))) (.cons (.bin .sub (.bin .sub (.var 3) (.con (.int 1))) (.ix (.var 9) (.con (.int 1)))) .nil))) .nil)))) .nil)) .nil)) (.cons (.ret (.tup (.cons (.tup (.cons (.blt .rev (.ix (.var 0) (.con (.int 0)))) (.cons (.var 4) (.cons (.tup (.cons (.bin .sub (.var 2) (.ix (.ix (.var 0) (.con (.int 2))) (.con (.int 1)))) (.cons (.bin .sub (.var 2) (.ix (.ix (.var 0) (.con (.int 2))) (.con (.int 0)))) .nil))) .nil)))) (.cons (.var 8) .nil)))) .nil)))))
def F__law_mirrored : Fn := ⟨2, 10, false, false, L__law_mirrored⟩
def L__law_ranges_right : MSs := (.cons (.asg (.tp [(.nm 5), (.nm 6)]) (.tup (.cons (.bin .sub (.blt .len (.ix (.var 1) (.con (.int 0)))) (.con (.int 1))) (.cons (.blt .len (.ix (.var 1) (.con (.int 1)))) .nil)))) (.cons (.par 7 8 (.callb 0 17 (.cons (.bin .add (.var 5) (.con (.int 1))) .nil)) (.callb 0 17 (.cons (.bin .add (.var 5) (.con (.int 1))) .nil))) (.cons (.ife (.cmp .ne (.call 91 (.cons (.var 3) (.cons (.var 4) (.cons (.bin .sub (.var 5) (.var 7)) .nil)))) (.call 91 (.cons (.var 1) (.cons (.var 2) (.cons (.var 7) .nil))))) (.cons (.ret (.con (.bool false))) .nil) .nil) (.cons (.ife (.cmp .ne (.call 109 (.cons (.var 3) (.cons (.var 4) (.cons (.bin .sub (.var 5) (.var 7)) .nil)))) (.call 109 (.cons (.var 1) (.cons (.var 2) (.cons (.var 7) .nil))))) (.cons (.ret (.con (.bool false))) .nil) .nil) (.cons (.ife (.cmp .ne (.call 111 (.cons (.var 3) (.cons (.var 4) (.cons (.bin .sub (.var 5) (.var 7)) (.cons (.bin .sub (.var 5) (.var 8)) .nil))))) (.call 111 (.cons (.var 1) (.cons (.var 2) (.cons (.var 7) (.cons (.var 8) .nil)))))) (.cons (.ret (.con (.bool false))) .nil) .nil) (.cons (.ife (.cmp .ne (.call 101 (.cons (.var 3) (.cons (.var 4) .nil))) (.call 101 (.cons (.var 1) (.cons (.var 2) .nil)))) (.cons (.ret (.con (.bool false))) .nil) .nil) (.cons (.ife (.cmp .ne (.call 129 (.cons (.var 3) (.cons (.var 4) (.cons (.bin .sub (.var 5) (.var 7)) .nil)))) (.call 129 (.cons (.var 1) (.cons (.var 2) (.cons (.var 7) .nil))))) (.cons (.ret (.con (.bool false))) .nil) .nil) (.cons (.asg (.nm 9) (.call 19 (.cons (.callb 0 17 (.cons (.con (.int 12)) .nil)) (.cons (.bin .add (.con (.int 1)) (.callb 0 17 (.cons (.con (.int 4)) .nil))) .nil)))) (.cons (.asg (.nm 10) (.comp (.blt .tuple (.blt .sorted (.comp (.bin .sub (.bin .sub (.var 6) (.con (.int 1))) (.var 11)) (.nm 11) (.seq (.var 12)) .no [11]))) (.nm 12) (.seq (.call 133 (.cons (.var 1) (.cons (.var 7) (.cons (.var 9) .nil))))) .no [12])) (.cons (.ife (.cmp .ne (.call 133 (.cons (.var 3) (.cons (.bin .sub (.var 5) (.var 7)) (.cons (.var 9) .nil)))) (.blt .sorted (.var 10))) (.cons (.ret (.con (.bool false))) .nil) .nil) (.cons (.ife (.cmp .ne (.call 120 (.cons (.var 3) (.cons (.var 4) (.cons (.tup .nil) .nil)))) (.call 120 (.cons (.var 1) (.cons (.var 2) (.cons (.tup .nil) .nil))))) (.cons (.ret (.con (.bool false))) .nil) .nil) (.cons (.ret (.cmp .eq (.call 125 (.cons (.var 3) (.cons (.var 4) .nil))) (.call 125 (.cons (.var 1) (.cons (.var 2) .nil))))) .nil))))))))))))
def F__law_ranges_right : Fn := ⟨5, 13, true, false, L__law_ranges_right⟩
def L_written_k15 : MSs := (.cons (.asgO 1 (.lst (.cons (.join (.con (.str " ")) (.bin .add (.lst (.cons (.con (.str "land")) .nil)) (.comp (.blt .str (.var 2)) (.nm 2) (.seq (.ix (.var 0) (.con (.int 0)))) .no [2]))) (.cons (.js (.cons (.con (.str "rain ")) (.cons (.blt .fmt (.ix (.ix (.var 0) (.con (.int 2))) (.con (.int 0)))) (.cons (.con (.str " ")) (.cons (.blt .fmt (.ix (.ix (.var 0) (.con (.int 2))) (.con (.int 1)))) .nil))))) .nil)))) (.cons (.forr (.tp [(.nm 3), (.nm 4), (.nm 5)]) (.seq (.ix (.var 0) (.con (.int 1)))) (.cons (.app 1 (.bin .add (.js (.cons (.con (.str "gate ")) (.cons (.blt .fmt (.var 3)) (.cons (.con (.str " ")) (.cons (.blt .fmt (.var 4)) (.cons (.con (.str " ")) .nil)))))) (.ite (.var 5) (.con (.str "shut")) (.con (.str "open"))))) .nil)) (.cons (.ret (.join (.con (.str "\n")) (.var 1))) .nil)))
def F_written_k15 : Fn := ⟨1, 6, false, false, L_written_k15⟩
def L_land_text : MSs := (.cons (.expr (.call 11 (.cons (.var 0) .nil))) (.cons (.ret (.call 176 (.cons (.var 0) .nil))) .nil))
def F_land_text : Fn := ⟨1, 1, false, false, L_land_text⟩
def L_figures_in : MSs := (.cons (.ret (.blt .tuple (.comp (.ite (.andv (.cmp .eq (.blt .len (.var 1)) (.con (.int 1))) (.cmp .isin (.var 1) (.con (.str "0123456789")))) (.blt .int (.var 1)) (.con .none)) (.nm 1) (.seq (.var 0)) .no [1]))) .nil)
def F_figures_in : Fn := ⟨1, 2, false, false, L_figures_in⟩
def L_read_land : MSs := (.cons (.ife (.nt (.isi (.var 0) .str)) (.cons (.raise 6) .nil) .nil) (.cons (.asg (.nm 1) (.comp (.split (.var 2) (.con (.str " "))) (.nm 2) (.seq (.split (.var 0) (.con (.str "\n")))) .no [2])) (.cons (.ife (.cmp .lt (.blt .len (.var 1)) (.con (.int 2))) (.cons (.raise 6) .nil) .nil) (.cons (.asg (.nm 3) (.blt .tuple (.comp (.bin .add (.call 178 (.cons (.sl (.var 4) (.so (.con (.int 1))) (.so (.con (.int 3)))) .nil)) (.tup (.cons (.cmp .eq (.ix (.var 4) (.blt .neg (.con (.int 1)))) (.con (.str "shut"))) .nil))) (.nm 4) (.seq (.sl (.var 1) (.so (.con (.int 2))) .no)) .no [4]))) (.cons (.asg (.nm 5) (.tup (.cons (.call 178 (.cons (.sl (.ix (.var 1) (.con (.int 0))) (.so (.con (.int 1))) .no) .nil)) (.cons (.var 3) (.cons (.call 178 (.cons (.sl (.ix (.var 1) (.con (.int 1))) (.so (.con (.int 1))) .no) .nil)) .nil))))) (.cons (.ife (.orv (.nt (.call 4 (.cons (.var 5) .nil))) (.cmp .ne (.call 176 (.cons (.var 5) .nil)) (.var 0))) (.cons (.raise 6) .nil) .nil) (.cons (.ret (.var 5)) .nil)))))))
def F_read_land : Fn := ⟨1, 6, false, false, L_read_land⟩
def L__law_text : MSs := (.cons (.asgO 1 (.lst (.cons (.join (.con (.str " ")) (.bin .add (.lst (.cons (.con (.str "land")) .nil)) (.comp (.blt .str (.var 2)) (.nm 2) (.seq (.ix (.var 0) (.con (.int 0)))) .no [2]))) .nil))) (.cons (.app 1 (.bin .add (.bin .add (.bin .add (.con (.str "rain ")) (.blt .str (.ix (.ix (.var 0) (.con (.int 2))) (.con (.int 0))))) (.con (.str " "))) (.blt .str (.ix (.ix (.var 0) (.con (.int 2))) (.con (.int 1)))))) (.cons (.forr (.tp [(.nm 3), (.nm 4), (.nm 5)]) (.seq (.ix (.var 0) (.con (.int 1)))) (.cons (.app 1 (.bin .add (.bin .add (.bin .add (.bin .add (.con (.str "gate ")) (.blt .str (.var 3))) (.con (.str " "))) (.blt .str (.var 4))) (.ite (.var 5) (.con (.str " shut")) (.con (.str " open"))))) .nil)) (.cons (.ret (.join (.con (.str "\n")) (.var 1))) .nil))))
def F__law_text : Fn := ⟨1, 6, false, false, L__law_text⟩
def L__law_figures : MSs := (.cons (.ret (.blt .tuple (.comp (.ite (.andv (.cmp .eq (.blt .len (.var 1)) (.con (.int 1))) (.cmp .isin (.var 1) (.con (.str "0123456789")))) (.blt .int (.var 1)) (.blt .neg (.con (.int 1)))) (.nm 1) (.seq (.var 0)) .no [1]))) .nil)
def F__law_figures : Fn := ⟨1, 2, false, false, L__law_figures⟩
def L__law_read : MSs := (.cons (.asg (.nm 1) (.comp (.split (.var 2) (.con (.str " "))) (.nm 2) (.seq (.split (.var 0) (.con (.str "\n")))) .no [2])) (.cons (.ife (.orv (.cmp .lt (.blt .len (.var 1)) (.con (.int 2))) (.orv (.cmp .ne (.ix (.ix (.var 1) (.con (.int 0))) (.con (.int 0))) (.con (.str "land"))) (.cmp .ne (.ix (.ix (.var 1) (.con (.int 1))) (.con (.int 0))) (.con (.str "rain"))))) (.cons (.ret (.con .none)) .nil) .nil) (.cons (.asg (.nm 3) (.tup .nil)) (.cons (.forr (.nm 4) (.seq (.sl (.var 1) (.so (.con (.int 2))) .no)) (.cons (.ife (.orv (.cmp .ne (.blt .len (.var 4)) (.con (.int 4))) (.orv (.cmp .ne (.ix (.var 4) (.con (.int 0))) (.con (.str "gate"))) (.cmp .notin (.ix (.var 4) (.con (.int 3))) (.lst (.cons (.con (.str "shut")) (.cons (.con (.str "open")) .nil)))))) (.cons (.ret (.con .none)) .nil) .nil) (.cons (.asg (.nm 3) (.bin .add (.var 3) (.tup (.cons (.bin .add (.call 181 (.cons (.sl (.var 4) (.so (.con (.int 1))) (.so (.con (.int 3)))) .nil)) (.tup (.cons (.cmp .eq (.ix (.var 4) (.con (.int 3))) (.con (.str "shut"))) .nil))) .nil)))) .nil))) (.cons (.asg (.nm 5) (.tup (.cons (.call 181 (.cons (.sl (.ix (.var 1) (.con (.int 0))) (.so (.con (.int 1))) .no) .nil)) (.cons (.var 3) (.cons (.call 181 (.cons (.sl (.ix (.var 1) (.con (.int 1))) (.so (.con (.int 1))) .no) .nil)) .nil))))) (.cons (.ret (.ite (.call 4 (.cons (.var 5) .nil)) (.var 5) (.con .none))) .nil))))))
def F__law_read : Fn := ⟨1, 6, false, false, L__law_read⟩
def L__law_bent : MSs := (.cons (.par 2 3 (.callb 0 17 (.cons (.bin .add (.blt .len (.var 1)) (.con (.int 1))) .nil)) (.callb 0 17 (.cons (.con (.int 6)) .nil))) (.cons (.asg (.nm 4) (.split (.var 1) (.con (.str "\n")))) (.cons (.asg (.nm 5) (.callb 0 17 (.cons (.blt .len (.var 4)) .nil))) (.cons (.ife (.cmp .eq (.var 3) (.con (.int 0))) (.cons (.asg (.nm 6) (.callb 0 18 (.cons (.lst (.cons (.con (.str " ")) (.cons (.con (.str "x")) (.cons (.con (.str "\n")) (.cons (.con (.str "1")) (.cons (.con (.str "0")) (.cons (.con (.str " 2")) (.cons (.con (.str "\ngate 7 2 shut")) (.cons (.con (.str "\ngate 1 1 open")) (.cons (.con (.str "-")) .nil)))))))))) .nil))) (.cons (.ret (.bin .add (.bin .add (.sl (.var 1) .no (.so (.var 2))) (.var 6)) (.sl (.var 1) (.so (.var 2)) .no))) .nil)) .nil) (.cons (.ife (.cmp .eq (.var 3) (.con (.int 1))) (.cons (.ret (.bin .add (.sl (.var 1) .no (.so (.var 2))) (.sl (.var 1) (.so (.bin .add (.var 2) (.con (.int 1)))) .no))) .nil) .nil) (.cons (.ife (.cmp .eq (.var 3) (.con (.int 2))) (.cons (.ret (.join (.con (.str "\n")) (.bin .add (.sl (.var 4) .no (.so (.var 5))) (.sl (.var 4) (.so (.bin .add (.var 5) (.con (.int 1)))) .no)))) .nil) .nil) (.cons (.ife (.cmp .eq (.var 3) (.con (.int 3))) (.cons (.ret (.join (.con (.str "\n")) (.bin .add (.sl (.var 4) .no (.so (.bin .add (.var 5) (.con (.int 1))))) (.sl (.var 4) (.so (.var 5)) .no)))) .nil) .nil) (.cons (.ife (.cmp .eq (.var 3) (.con (.int 4))) (.cons (.ret (.join (.con (.str "\n")) (.bin .add (.sl (.var 4) (.so (.var 5)) .no) (.sl (.var 4) .no (.so (.var 5)))))) .nil) .nil) (.cons (.asg (.nm 7) (.split (.ix (.var 4) (.var 5)) (.con (.str " ")))) (.cons (.ret (.join (.con (.str "\n")) (.bin .add (.bin .add (.sl (.var 4) .no (.so (.var 5))) (.lst (.cons (.join (.con (.str " ")) (.bin .add (.sl (.var 7) .no (.so (.con (.int 1)))) (.blt .revt (.var 7)))) .nil))) (.sl (.var 4) (.so (.bin .add (.var 5) (.con (.int 1)))) .no)))) .nil))))))))))
def F__law_bent : Fn := ⟨2, 8, true, false, L__law_bent⟩
def L_law_k15 : MSs := (.cons (.forr (.nm 1) (.rng1 (.con (.int 8))) (.cons (.setbag 2 16 (.cons (.var 0) (.cons (.var 1) .nil))) (.cons (.asg (.nm 3) (.callb 2 20 .nil)) (.cons (.asg (.nm 4) (.call 180 (.cons (.var 3) .nil))) (.cons (.ife (.orv (.cmp .ne (.call 177 (.cons (.var 3) .nil)) (.var 4)) (.cmp .ne (.call 179 (.cons (.var 4) .nil)) (.var 3))) (.cons (.ret (.con (.bool false))) .nil) .nil) (.cons (.forr (.nm 5) (.rng1 (.con (.int 14))) (.cons (.asg (.nm 6) (.callb 2 183 (.cons (.var 4) .nil))) (.cons (.asg (.nm 7) (.call 182 (.cons (.var 6) .nil))) (.cons (.asg (.nm 8) (.ltold (.call 179 (.cons (.var 6) .nil)))) (.cons (.ife (.cmp .ne (.var 8) (.ite (.cmp .is (.var 7) (.con .none)) (.tup (.cons (.con .none) (.cons (.con (.str "text value")) .nil))) (.tup (.cons (.var 7) (.cons (.con (.str "")) .nil))))) (.cons (.ret (.con (.bool false))) .nil) .nil) .nil))))) (.cons (.forr (.nm 9) (.seq (.lst (.cons (.con .none) (.cons (.con (.int 5)) (.cons (.con (.str "")) (.cons (.con (.str "land 1 2 3")) (.cons (.con (.str "rain 0 1")) (.cons (.tup (.cons (.var 4) .nil)) (.cons (.bin .add (.var 4) (.con (.str "\n"))) (.cons (.bin .add (.con (.str "\n")) (.var 4)) .nil)))))))))) (.cons (.ife (.cmp .ne (.ltold (.call 179 (.cons (.var 9) .nil))) (.tup (.cons (.con .none) (.cons (.con (.str "text value")) .nil)))) (.cons (.ret (.con (.bool false))) .nil) .nil) .nil)) (.cons (.forr (.nm 9) (.seq (.lst (.cons (.con .none) (.cons (.var 4) (.cons (.sl (.var 3) .no (.so (.con (.int 2)))) .nil))))) (.cons (.ife (.cmp .ne (.ltold (.call 177 (.cons (.var 9) .nil))) (.tup (.cons (.con .none) (.cons (.con (.str "land value")) .nil)))) (.cons (.ret (.con (.bool false))) .nil) .nil) .nil)) .nil)))))))) (.cons (.asg (.nm 10) (.lst (.cons (.con (.str "land 1 2\nrain 0 1")) (.cons (.con (.str "land 1 2 3\nrain 1 0")) (.cons (.con (.str "land 1 2 3\nrain 0 3")) (.cons (.con (.str "land 1 2 10\nrain 0 2")) .nil)))))) (.cons (.asg (.nm 10) (.bin .add (.var 10) (.lst (.cons (.con (.str "land 1 2 3\nrain 0 2\ngate 0 0 open")) (.cons (.con (.str "land 1 2 3\nrain 0 2\ngate 0 1 wide")) .nil))))) (.cons (.forr (.nm 4) (.seq (.bin .add (.var 10) (.lst (.cons (.con (.str "land  1 2 3\nrain 0 2")) (.cons (.con (.str "land 1 2 3\nrain 0 2 \ngate 0 1 open")) .nil))))) (.cons (.ife (.cmp .ne (.ltold (.call 179 (.cons (.var 4) .nil))) (.tup (.cons (.con .none) (.cons (.con (.str "text value")) .nil)))) (.cons (.ret (.con (.bool false))) .nil) .nil) .nil)) (.cons (.asg (.nm 7) (.tup (.cons (.tup (.cons (.con (.int 9)) (.cons (.con (.int 0)) (.cons (.con (.int 9)) .nil)))) (.cons (.tup (.cons (.tup (.cons (.con (.int 1)) (.cons (.con (.int 9)) (.cons (.con (.bool true)) .nil)))) .nil)) (.cons (.tup (.cons (.con (.int 1)) (.cons (.con (.int 1)) .nil))) .nil))))) (.cons (.ret (.cmp .eq (.call 179 (.cons (.con (.str "land 9 0 9\nrain 1 1\ngate 1 9 shut")) .nil)) (.var 7))) .nil))))))
def F_law_k15 : Fn := ⟨1, 11, false, false, L_law_k15⟩
def GT0 : List (Option Fn) := [some F_is_plain, some F_is_whole, some F_are_heights, some F_is_gate, some F_is_land, some F_is_step, some F_fits_script, some F_divisor_of, some F_is_amount, some F_ground_of, some F_first_shut, some F_need_land, some F_is_script, some F_grounds, some F__law_cell, some F__law_draws, some F__law_bag, some F__law_take, some F__law_choice, some F__law_lowest]
def GT1 : List (Option Fn) := [some F__law_land, some F__law_script, some F__law_grounds, some F__law_shut, none, none, some F__law_truly, some F__law_whole, some F__law_good, some F__law_good_step, some F__law_good_script, some F__law_spoilt, some F_law_k01, some F_need_script, some F_need_both, some F_need_amount, some F_lowest, some F_plus, some F_minus, some F_times]
def GT2 : List (Option Fn) := [some F_shared, some F_quotient, some F_is_less, some F_least, some F_runs_of, some F_lower_sides, some F_highest_first, some F_run_with, none, some F_rates, some F_risen, some F_ground_at, some F_is_wet, some F_comes_late, some F_turned, some F_stepped, some F_waits_of, some F_times_left, some F_begun, some F_course_from]
def GT3 : List (Option Fn) := [some F_course, some F_state_then, some F_at_amount, some F_wet_at, some F_need_all, some F_surfaces, some F_wet, some F_word_of, some F_runs, some F_steps_done, none, none, none, none, none, none, none, none, none, none]
def GT4 : List (Option Fn) := [none, some F__law_some, none, none, none, none, some F_need_number, some F_pieces_of, some F_line_of, some F_form_of, some F_lowest_common, some F_level_forms, none, none, none, none, none, some F_range_of, some F_joined_rows, some F_in_order]
def GT5 : List (Option Fn) := [some F_parts_between, some F_done_ranges, none, none, none, some F_ranges_true, some F_cut_where, some F_middle, some F_wet_parts, some F_wet_ranges, some F_are_joined, some F_joined, none, none, none, none, some F_lines_then, some F_parted_at, some F_need_two, none]
def GT6 : List (Option Fn) := [some F_parting, none, none, none, none, some F_idle_steps, none, none, some F_dry_in, some F_dry_until, none, none, some F_all_lots, some F_least_gates, none, none, none, none, none, none]
def GT7 : List (Option Fn) := [none, none, none, none, none, none, none, none, none, none, none, none, some F_need_result, some F_longer, some F_shorter, some F_is_wet_ever, some F__law_mirrored, some F__law_ranges_right, none, none]
def GT8 : List (Option Fn) := [none, none, none, none, none, none, none, none, none, none, none, none, none, none, none, none, some F_written_k15, some F_land_text, some F_figures_in, some F_read_land]
def GT9 : List (Option Fn) := [some F__law_text, some F__law_figures, some F__law_read, some F__law_bent, some F_law_k15]
def GT : List (Option Fn) := GT0 ++ GT1 ++ GT2 ++ GT3 ++ GT4 ++ GT5 ++ GT6 ++ GT7 ++ GT8 ++ GT9
/-- the error classes, and what isinstance tells of them -/
def ens0 : List (Str × List Bool) := [("RainError", [false, false, false, false, false, false, false, false, true]), ("InvalidLand", [true, false, false, false, false, false, false, false, true]), ("InvalidScript", [false, true, false, false, false, false, false, false, true]), ("InvalidAmount", [false, false, true, false, false, false, false, false, true]), ("InvalidNumber", [false, false, false, true, false, false, false, false, true]), ("InvalidFacts", [false, false, false, false, true, false, false, false, true]), ("InvalidText", [false, false, false, false, false, true, false, false, true]), ("TooLate", [false, false, false, false, false, false, true, false, true]), ("NothingToUndo", [false, false, false, false, false, false, false, true, true])]
def gcv (n : Nat) : D := match n with
  | 0 => .int 6
  | 1 => .tuple [.int 0, .int 1]
  | 2 => .tuple [.int 1, .int 0]
  | _ => .none
/-- the one program -/
def P0 : Prog := ⟨gcv, enOf ens0, fun _ => none, fun id => (GT[id]?).join⟩
def C0 (n : Nat) : Tab := tab P0 n
theorem run_is_plain (n : Nat) (d0 : D) : callP P0 (n + 1) 0 [d0] = fin (evSs (tab P0 n) L_is_plain [.val d0] []) := by
  rw [callP_row (g := F_is_plain) rfl rfl rfl rfl]; rfl
theorem run_is_whole (n : Nat) (d0 d1 d2 : D) : callP P0 (n + 1) 1 [d0, d1, d2] = fin (evSs (tab P0 n) L_is_whole [.val d0, .val d1, .val d2] []) := by
  rw [callP_row (g := F_is_whole) rfl rfl rfl rfl]; rfl
theorem run_are_heights (n : Nat) (d0 : D) : callP P0 (n + 1) 2 [d0] = fin (evSs (tab P0 n) L_are_heights [.val d0, .emp] []) := by
  rw [callP_row (g := F_are_heights) rfl rfl rfl rfl]; rfl
theorem run_is_gate (n : Nat) (d0 d1 : D) : callP P0 (n + 1) 3 [d0, d1] = fin (evSs (tab P0 n) L_is_gate [.val d0, .val d1] []) := by
  rw [callP_row (g := F_is_gate) rfl rfl rfl rfl]; rfl
theorem run_is_land (n : Nat) (d0 : D) : callP P0 (n + 1) 4 [d0] = fin (evSs (tab P0 n) L_is_land [.val d0, .emp, .emp, .emp, .emp, .emp, .emp, .emp] []) := by
  rw [callP_row (g := F_is_land) rfl rfl rfl rfl]; rfl
theorem run_is_step (n : Nat) (d0 d1 : D) : callP P0 (n + 1) 5 [d0, d1] = fin (evSs (tab P0 n) L_is_step [.val d0, .val d1] []) := by
  rw [callP_row (g := F_is_step) rfl rfl rfl rfl]; rfl
theorem run_fits_script (n : Nat) (d0 d1 : D) : callP P0 (n + 1) 6 [d0, d1] = fin (evSs (tab P0 n) L_fits_script [.val d0, .val d1, .emp] []) := by
  rw [callP_row (g := F_fits_script) rfl rfl rfl rfl]; rfl
theorem run_divisor_of (n : Nat) (d0 d1 : D) : callP P0 (n + 1) 7 [d0, d1] = fin (evSs (tab P0 n) L_divisor_of [.val d0, .val d1] []) := by
  rw [callP_row (g := F_divisor_of) rfl rfl rfl rfl]; rfl
theorem run_is_amount (n : Nat) (d0 : D) : callP P0 (n + 1) 8 [d0] = fin (evSs (tab P0 n) L_is_amount [.val d0] []) := by
  rw [callP_row (g := F_is_amount) rfl rfl rfl rfl]; rfl
theorem run_ground_of (n : Nat) (d0 d1 d2 : D) : callP P0 (n + 1) 9 [d0, d1, d2] = fin (evSs (tab P0 n) L_ground_of [.val d0, .val d1, .val d2, .emp, .emp] []) := by
  rw [callP_row (g := F_ground_of) rfl rfl rfl rfl]; rfl
theorem run_first_shut (n : Nat) (d0 : D) : callP P0 (n + 1) 10 [d0] = fin (evSs (tab P0 n) L_first_shut [.val d0, .emp, .emp] []) := by
  rw [callP_row (g := F_first_shut) rfl rfl rfl rfl]; rfl
theorem run_need_land (n : Nat) (d0 : D) : callP P0 (n + 1) 11 [d0] = fin (evSs (tab P0 n) L_need_land [.val d0] []) := by
  rw [callP_row (g := F_need_land) rfl rfl rfl rfl]; rfl
theorem run_is_script (n : Nat) (d0 d1 : D) : callP P0 (n + 1) 12 [d0, d1] = fin (evSs (tab P0 n) L_is_script [.val d0, .val d1] []) := by
  rw [callP_row (g := F_is_script) rfl rfl rfl rfl]; rfl
theorem run_grounds (n : Nat) (d0 : D) : callP P0 (n + 1) 13 [d0] = fin (evSs (tab P0 n) L_grounds [.val d0, .emp] []) := by
  rw [callP_row (g := F_grounds) rfl rfl rfl rfl]; rfl
theorem run__law_cell (n : Nat) (d0 d1 : D) : callP P0 (n + 1) 14 [d0, d1] = fin (evSs (tab P0 n) L__law_cell [.val d0, .val d1] []) := by
  rw [callP_row (g := F__law_cell) rfl rfl rfl rfl]; rfl
theorem run__law_draws (n : Nat) (d0 d1 d2 d3 : D) : callP P0 (n + 1) 15 [d0, d1, d2, d3] = fin (evSs (tab P0 n) L__law_draws [.val d0, .val d1, .val d2, .val d3, .emp, .emp, .emp, .emp, .emp, .emp] []) := by
  rw [callP_row (g := F__law_draws) rfl rfl rfl rfl]; rfl
theorem run__law_bag (n : Nat) (d0 d1 : D) : callP P0 (n + 1) 16 [d0, d1] = fin (evSs (tab P0 n) L__law_bag [.val d0, .val d1] []) := by
  rw [callP_row (g := F__law_bag) rfl rfl rfl rfl]; rfl
theorem run__law_take (n : Nat) (d0 : D) (B : Bg) : callB P0 (n + 1) 17 [d0] B = endD (evSs (tab P0 n) L__law_take [.bag, .val d0, .emp] B) := by
  rw [callB_row (g := F__law_take) rfl rfl rfl]; rfl
theorem run__law_choice (n : Nat) (d0 : D) (B : Bg) : callB P0 (n + 1) 18 [d0] B = endD (evSs (tab P0 n) L__law_choice [.bag, .val d0] B) := by
  rw [callB_row (g := F__law_choice) rfl rfl rfl]; rfl
theorem run__law_lowest (n : Nat) (d0 d1 : D) : callP P0 (n + 1) 19 [d0, d1] = fin (evSs (tab P0 n) L__law_lowest [.val d0, .val d1, .emp, .emp, .emp] []) := by
  rw [callP_row (g := F__law_lowest) rfl rfl rfl rfl]; rfl
theorem run__law_land (n : Nat) (B : Bg) : callB P0 (n + 1) 20 [] B = endD (evSs (tab P0 n) L__law_land [.bag, .emp, .emp, .emp, .emp, .emp, .emp, .emp, .emp] B) := by
  rw [callB_row (g := F__law_land) rfl rfl rfl]; rfl
theorem run__law_script (n : Nat) (d0 d1 : D) (B : Bg) : callB P0 (n + 1) 21 [d0, d1] B = endD (evSs (tab P0 n) L__law_script [.bag, .val d0, .val d1, .emp, .emp, .emp, .emp] B) := by
  rw [callB_row (g := F__law_script) rfl rfl rfl]; rfl
theorem run__law_grounds (n : Nat) (d0 d1 : D) : callP P0 (n + 1) 22 [d0, d1] = fin (evSs (tab P0 n) L__law_grounds [.val d0, .val d1, .emp, .emp, .emp, .emp, .emp] []) := by
  rw [callP_row (g := F__law_grounds) rfl rfl rfl rfl]; rfl
theorem run__law_shut (n : Nat) (d0 : D) : callP P0 (n + 1) 23 [d0] = fin (evSs (tab P0 n) L__law_shut [.val d0, .emp] []) := by
  rw [callP_row (g := F__law_shut) rfl rfl rfl rfl]; rfl
theorem run__law_truly (n : Nat) (d0 d1 : D) : callP P0 (n + 1) 26 [d0, d1] = fin (evSs (tab P0 n) L__law_truly [.val d0, .val d1] []) := by
  rw [callP_row (g := F__law_truly) rfl rfl rfl rfl]; rfl
theorem run__law_whole (n : Nat) (d0 d1 d2 : D) : callP P0 (n + 1) 27 [d0, d1, d2] = fin (evSs (tab P0 n) L__law_whole [.val d0, .val d1, .val d2] []) := by
  rw [callP_row (g := F__law_whole) rfl rfl rfl rfl]; rfl
theorem run__law_good (n : Nat) (d0 : D) : callP P0 (n + 1) 28 [d0] = fin (evSs (tab P0 n) L__law_good [.val d0, .emp, .emp, .emp, .emp] []) := by
  rw [callP_row (g := F__law_good) rfl rfl rfl rfl]; rfl
theorem run__law_good_step (n : Nat) (d0 d1 : D) : callP P0 (n + 1) 29 [d0, d1] = fin (evSs (tab P0 n) L__law_good_step [.val d0, .val d1] []) := by
  rw [callP_row (g := F__law_good_step) rfl rfl rfl rfl]; rfl
theorem run__law_good_script (n : Nat) (d0 d1 : D) : callP P0 (n + 1) 30 [d0, d1] = fin (evSs (tab P0 n) L__law_good_script [.val d0, .val d1, .emp] []) := by
  rw [callP_row (g := F__law_good_script) rfl rfl rfl rfl]; rfl
theorem run__law_spoilt (n : Nat) (d0 : D) (B : Bg) : callB P0 (n + 1) 31 [d0] B = endD (evSs (tab P0 n) L__law_spoilt [.bag, .val d0, .emp, .emp, .emp] B) := by
  rw [callB_row (g := F__law_spoilt) rfl rfl rfl]; rfl
theorem run_law_k01 (n : Nat) (d0 : D) : callP P0 (n + 1) 32 [d0] = fin (evSs (tab P0 n) L_law_k01 [.val d0, .emp, .emp, .emp, .emp, .emp, .emp, .emp, .emp, .emp, .emp, .emp] []) := by
  rw [callP_row (g := F_law_k01) rfl rfl rfl rfl]; rfl
theorem run_need_script (n : Nat) (d0 d1 : D) : callP P0 (n + 1) 33 [d0, d1] = fin (evSs (tab P0 n) L_need_script [.val d0, .val d1] []) := by
  rw [callP_row (g := F_need_script) rfl rfl rfl rfl]; rfl
theorem run_need_both (n : Nat) (d0 d1 : D) : callP P0 (n + 1) 34 [d0, d1] = fin (evSs (tab P0 n) L_need_both [.val d0, .val d1] []) := by
  rw [callP_row (g := F_need_both) rfl rfl rfl rfl]; rfl
theorem run_need_amount (n : Nat) (d0 : D) : callP P0 (n + 1) 35 [d0] = fin (evSs (tab P0 n) L_need_amount [.val d0] []) := by
  rw [callP_row (g := F_need_amount) rfl rfl rfl rfl]; rfl
theorem run_lowest (n : Nat) (d0 d1 : D) : callP P0 (n + 1) 36 [d0, d1] = fin (evSs (tab P0 n) L_lowest [.val d0, .val d1, .emp] []) := by
  rw [callP_row (g := F_lowest) rfl rfl rfl rfl]; rfl
theorem run_plus (n : Nat) (d0 d1 : D) : callP P0 (n + 1) 37 [d0, d1] = fin (evSs (tab P0 n) L_plus [.val d0, .val d1] []) := by
  rw [callP_row (g := F_plus) rfl rfl rfl rfl]; rfl
theorem run_minus (n : Nat) (d0 d1 : D) : callP P0 (n + 1) 38 [d0, d1] = fin (evSs (tab P0 n) L_minus [.val d0, .val d1] []) := by
  rw [callP_row (g := F_minus) rfl rfl rfl rfl]; rfl
theorem run_times (n : Nat) (d0 d1 : D) : callP P0 (n + 1) 39 [d0, d1] = fin (evSs (tab P0 n) L_times [.val d0, .val d1] []) := by
  rw [callP_row (g := F_times) rfl rfl rfl rfl]; rfl
theorem run_shared (n : Nat) (d0 d1 : D) : callP P0 (n + 1) 40 [d0, d1] = fin (evSs (tab P0 n) L_shared [.val d0, .val d1] []) := by
  rw [callP_row (g := F_shared) rfl rfl rfl rfl]; rfl
theorem run_quotient (n : Nat) (d0 d1 : D) : callP P0 (n + 1) 41 [d0, d1] = fin (evSs (tab P0 n) L_quotient [.val d0, .val d1] []) := by
  rw [callP_row (g := F_quotient) rfl rfl rfl rfl]; rfl
theorem run_is_less (n : Nat) (d0 d1 : D) : callP P0 (n + 1) 42 [d0, d1] = fin (evSs (tab P0 n) L_is_less [.val d0, .val d1] []) := by
  rw [callP_row (g := F_is_less) rfl rfl rfl rfl]; rfl
theorem run_least (n : Nat) (d0 : D) : callP P0 (n + 1) 43 [d0] = fin (evSs (tab P0 n) L_least [.val d0, .emp, .emp] []) := by
  rw [callP_row (g := F_least) rfl rfl rfl rfl]; rfl
theorem run_runs_of (n : Nat) (d0 : D) : callP P0 (n + 1) 44 [d0] = fin (evSs (tab P0 n) L_runs_of [.val d0, .emp, .emp] []) := by
  rw [callP_row (g := F_runs_of) rfl rfl rfl rfl]; rfl
theorem run_lower_sides (n : Nat) (d0 d1 : D) : callP P0 (n + 1) 45 [d0, d1] = fin (evSs (tab P0 n) L_lower_sides [.val d0, .val d1, .emp, .emp, .emp, .emp] []) := by
  rw [callP_row (g := F_lower_sides) rfl rfl rfl rfl]; rfl
theorem run_highest_first (n : Nat) (d0 d1 : D) : callP P0 (n + 1) 46 [d0, d1] = fin (evSs (tab P0 n) L_highest_first [.val d0, .val d1, .emp, .emp, .emp, .emp] []) := by
  rw [callP_row (g := F_highest_first) rfl rfl rfl rfl]; rfl
theorem run_run_with (n : Nat) (d0 d1 : D) : callP P0 (n + 1) 47 [d0, d1] = fin (evSs (tab P0 n) L_run_with [.val d0, .val d1, .emp] []) := by
  rw [callP_row (g := F_run_with) rfl rfl rfl rfl]; rfl
theorem run_rates (n : Nat) (d0 d1 : D) : callP P0 (n + 1) 49 [d0, d1] = fin (evSs (tab P0 n) L_rates [.val d0, .val d1, .emp, .emp, .emp, .emp, .emp] []) := by
  rw [callP_row (g := F_rates) rfl rfl rfl rfl]; rfl
theorem run_risen (n : Nat) (d0 d1 d2 : D) : callP P0 (n + 1) 50 [d0, d1, d2] = fin (evSs (tab P0 n) L_risen [.val d0, .val d1, .val d2, .emp, .emp] []) := by
  rw [callP_row (g := F_risen) rfl rfl rfl rfl]; rfl
theorem run_ground_at (n : Nat) (d0 d1 d2 : D) : callP P0 (n + 1) 51 [d0, d1, d2] = fin (evSs (tab P0 n) L_ground_at [.val d0, .val d1, .val d2] []) := by
  rw [callP_row (g := F_ground_at) rfl rfl rfl rfl]; rfl
theorem run_is_wet (n : Nat) (d0 d1 d2 : D) : callP P0 (n + 1) 52 [d0, d1, d2] = fin (evSs (tab P0 n) L_is_wet [.val d0, .val d1, .val d2] []) := by
  rw [callP_row (g := F_is_wet) rfl rfl rfl rfl]; rfl
theorem run_comes_late (n : Nat) (d0 d1 d2 d3 : D) : callP P0 (n + 1) 53 [d0, d1, d2, d3] = fin (evSs (tab P0 n) L_comes_late [.val d0, .val d1, .val d2, .val d3, .emp, .emp, .emp] []) := by
  rw [callP_row (g := F_comes_late) rfl rfl rfl rfl]; rfl
theorem run_turned (n : Nat) (d0 d1 d2 d3 : D) : callP P0 (n + 1) 54 [d0, d1, d2, d3] = fin (evSs (tab P0 n) L_turned [.val d0, .val d1, .val d2, .val d3, .emp, .emp, .emp, .emp, .emp, .emp, .emp, .emp, .emp] []) := by
  rw [callP_row (g := F_turned) rfl rfl rfl rfl]; rfl
theorem run_stepped (n : Nat) (d0 d1 d2 : D) : callP P0 (n + 1) 55 [d0, d1, d2] = fin (evSs (tab P0 n) L_stepped [.val d0, .val d1, .val d2, .emp, .emp] []) := by
  rw [callP_row (g := F_stepped) rfl rfl rfl rfl]; rfl
theorem run_waits_of (n : Nat) (d0 d1 : D) : callP P0 (n + 1) 56 [d0, d1] = fin (evSs (tab P0 n) L_waits_of [.val d0, .val d1] []) := by
  rw [callP_row (g := F_waits_of) rfl rfl rfl rfl]; rfl
theorem run_times_left (n : Nat) (d0 d1 d2 : D) : callP P0 (n + 1) 57 [d0, d1, d2] = fin (evSs (tab P0 n) L_times_left [.val d0, .val d1, .val d2, .emp, .emp, .emp, .emp, .emp, .emp] []) := by
  rw [callP_row (g := F_times_left) rfl rfl rfl rfl]; rfl
theorem run_begun (n : Nat) (d0 d1 d2 : D) : callP P0 (n + 1) 58 [d0, d1, d2] = fin (evSs (tab P0 n) L_begun [.val d0, .val d1, .val d2, .emp, .emp] []) := by
  rw [callP_row (g := F_begun) rfl rfl rfl rfl]; rfl
theorem run_course_from (n : Nat) (d0 d1 d2 : D) : callP P0 (n + 1) 59 [d0, d1, d2] = fin (evSs (tab P0 n) L_course_from [.val d0, .val d1, .val d2, .emp, .emp, .emp, .emp, .emp] []) := by
  rw [callP_row (g := F_course_from) rfl rfl rfl rfl]; rfl
theorem run_course (n : Nat) (d0 d1 : D) : callP P0 (n + 1) 60 [d0, d1] = fin (evSs (tab P0 n) L_course [.val d0, .val d1] []) := by
  rw [callP_row (g := F_course) rfl rfl rfl rfl]; rfl
theorem run_state_then (n : Nat) (d0 d1 : D) : callP P0 (n + 1) 61 [d0, d1] = fin (evSs (tab P0 n) L_state_then [.val d0, .val d1, .emp, .emp, .emp] []) := by
  rw [callP_row (g := F_state_then) rfl rfl rfl rfl]; rfl
theorem run_at_amount (n : Nat) (d0 d1 d2 : D) : callP P0 (n + 1) 62 [d0, d1, d2] = fin (evSs (tab P0 n) L_at_amount [.val d0, .val d1, .val d2] []) := by
  rw [callP_row (g := F_at_amount) rfl rfl rfl rfl]; rfl
theorem run_wet_at (n : Nat) (d0 d1 : D) : callP P0 (n + 1) 63 [d0, d1] = fin (evSs (tab P0 n) L_wet_at [.val d0, .val d1, .emp] []) := by
  rw [callP_row (g := F_wet_at) rfl rfl rfl rfl]; rfl
theorem run_need_all (n : Nat) (d0 d1 d2 : D) : callP P0 (n + 1) 64 [d0, d1, d2] = fin (evSs (tab P0 n) L_need_all [.val d0, .val d1, .val d2] []) := by
  rw [callP_row (g := F_need_all) rfl rfl rfl rfl]; rfl
theorem run_surfaces (n : Nat) (d0 d1 d2 : D) : callP P0 (n + 1) 65 [d0, d1, d2] = fin (evSs (tab P0 n) L_surfaces [.val d0, .val d1, .val d2] []) := by
  rw [callP_row (g := F_surfaces) rfl rfl rfl rfl]; rfl
theorem run_wet (n : Nat) (d0 d1 d2 : D) : callP P0 (n + 1) 66 [d0, d1, d2] = fin (evSs (tab P0 n) L_wet [.val d0, .val d1, .val d2] []) := by
  rw [callP_row (g := F_wet) rfl rfl rfl rfl]; rfl
theorem run_word_of (n : Nat) (d0 d1 d2 : D) : callP P0 (n + 1) 67 [d0, d1, d2] = fin (evSs (tab P0 n) L_word_of [.val d0, .val d1, .val d2, .emp] []) := by
  rw [callP_row (g := F_word_of) rfl rfl rfl rfl]; rfl
theorem run_runs (n : Nat) (d0 d1 d2 : D) : callP P0 (n + 1) 68 [d0, d1, d2] = fin (evSs (tab P0 n) L_runs [.val d0, .val d1, .val d2, .emp, .emp, .emp] []) := by
  rw [callP_row (g := F_runs) rfl rfl rfl rfl]; rfl
theorem run_steps_done (n : Nat) (d0 d1 d2 : D) : callP P0 (n + 1) 69 [d0, d1, d2] = fin (evSs (tab P0 n) L_steps_done [.val d0, .val d1, .val d2] []) := by
  rw [callP_row (g := F_steps_done) rfl rfl rfl rfl]; rfl
theorem run__law_some (n : Nat) (d0 : D) (B : Bg) : callB P0 (n + 1) 81 [d0] B = endD (evSs (tab P0 n) L__law_some [.bag, .val d0, .emp, .emp, .emp, .emp] B) := by
  rw [callB_row (g := F__law_some) rfl rfl rfl]; rfl
theorem run_need_number (n : Nat) (d0 d1 d2 : D) : callP P0 (n + 1) 86 [d0, d1, d2] = fin (evSs (tab P0 n) L_need_number [.val d0, .val d1, .val d2] []) := by
  rw [callP_row (g := F_need_number) rfl rfl rfl rfl]; rfl
theorem run_pieces_of (n : Nat) (d0 : D) : callP P0 (n + 1) 87 [d0] = fin (evSs (tab P0 n) L_pieces_of [.val d0, .emp, .emp, .emp, .emp] []) := by
  rw [callP_row (g := F_pieces_of) rfl rfl rfl rfl]; rfl
theorem run_line_of (n : Nat) (d0 d1 d2 : D) : callP P0 (n + 1) 88 [d0, d1, d2] = fin (evSs (tab P0 n) L_line_of [.val d0, .val d1, .val d2, .emp] []) := by
  rw [callP_row (g := F_line_of) rfl rfl rfl rfl]; rfl
theorem run_form_of (n : Nat) (d0 : D) : callP P0 (n + 1) 89 [d0] = fin (evSs (tab P0 n) L_form_of [.val d0, .emp, .emp, .emp] []) := by
  rw [callP_row (g := F_form_of) rfl rfl rfl rfl]; rfl
theorem run_lowest_common (n : Nat) (d0 d1 : D) : callP P0 (n + 1) 90 [d0, d1] = fin (evSs (tab P0 n) L_lowest_common [.val d0, .val d1] []) := by
  rw [callP_row (g := F_lowest_common) rfl rfl rfl rfl]; rfl
theorem run_level_forms (n : Nat) (d0 d1 d2 : D) : callP P0 (n + 1) 91 [d0, d1, d2] = fin (evSs (tab P0 n) L_level_forms [.val d0, .val d1, .val d2, .emp, .emp, .emp, .emp, .emp] []) := by
  rw [callP_row (g := F_level_forms) rfl rfl rfl rfl]; rfl
theorem run_range_of (n : Nat) (d0 : D) : callP P0 (n + 1) 97 [d0] = fin (evSs (tab P0 n) L_range_of [.val d0, .emp, .emp] []) := by
  rw [callP_row (g := F_range_of) rfl rfl rfl rfl]; rfl
theorem run_joined_rows (n : Nat) (d0 : D) : callP P0 (n + 1) 98 [d0] = fin (evSs (tab P0 n) L_joined_rows [.val d0, .emp, .emp, .emp, .emp, .emp] []) := by
  rw [callP_row (g := F_joined_rows) rfl rfl rfl rfl]; rfl
theorem run_in_order (n : Nat) (d0 : D) : callP P0 (n + 1) 99 [d0] = fin (evSs (tab P0 n) L_in_order [.val d0, .emp, .emp, .emp, .emp] []) := by
  rw [callP_row (g := F_in_order) rfl rfl rfl rfl]; rfl
theorem run_parts_between (n : Nat) (d0 d1 d2 : D) : callP P0 (n + 1) 100 [d0, d1, d2] = fin (evSs (tab P0 n) L_parts_between [.val d0, .val d1, .val d2, .emp, .emp, .emp, .emp] []) := by
  rw [callP_row (g := F_parts_between) rfl rfl rfl rfl]; rfl
theorem run_done_ranges (n : Nat) (d0 d1 : D) : callP P0 (n + 1) 101 [d0, d1] = fin (evSs (tab P0 n) L_done_ranges [.val d0, .val d1, .emp, .emp, .emp, .emp, .emp] []) := by
  rw [callP_row (g := F_done_ranges) rfl rfl rfl rfl]; rfl
theorem run_ranges_true (n : Nat) (d0 : D) : callP P0 (n + 1) 105 [d0] = fin (evSs (tab P0 n) L_ranges_true [.val d0, .emp, .emp] []) := by
  rw [callP_row (g := F_ranges_true) rfl rfl rfl rfl]; rfl
theorem run_cut_where (n : Nat) (d0 d1 d2 d3 : D) : callP P0 (n + 1) 106 [d0, d1, d2, d3] = fin (evSs (tab P0 n) L_cut_where [.val d0, .val d1, .val d2, .val d3, .emp] []) := by
  rw [callP_row (g := F_cut_where) rfl rfl rfl rfl]; rfl
theorem run_middle (n : Nat) (d0 : D) : callP P0 (n + 1) 107 [d0] = fin (evSs (tab P0 n) L_middle [.val d0, .emp, .emp] []) := by
  rw [callP_row (g := F_middle) rfl rfl rfl rfl]; rfl
theorem run_wet_parts (n : Nat) (d0 d1 d2 : D) : callP P0 (n + 1) 108 [d0, d1, d2] = fin (evSs (tab P0 n) L_wet_parts [.val d0, .val d1, .val d2, .emp, .emp, .emp, .emp, .emp, .emp, .emp] []) := by
  rw [callP_row (g := F_wet_parts) rfl rfl rfl rfl]; rfl
theorem run_wet_ranges (n : Nat) (d0 d1 d2 : D) : callP P0 (n + 1) 109 [d0, d1, d2] = fin (evSs (tab P0 n) L_wet_ranges [.val d0, .val d1, .val d2] []) := by
  rw [callP_row (g := F_wet_ranges) rfl rfl rfl rfl]; rfl
theorem run_are_joined (n : Nat) (d0 d1 d2 d3 : D) : callP P0 (n + 1) 110 [d0, d1, d2, d3] = fin (evSs (tab P0 n) L_are_joined [.val d0, .val d1, .val d2, .val d3, .emp] []) := by
  rw [callP_row (g := F_are_joined) rfl rfl rfl rfl]; rfl
theorem run_joined (n : Nat) (d0 d1 d2 d3 : D) : callP P0 (n + 1) 111 [d0, d1, d2, d3] = fin (evSs (tab P0 n) L_joined [.val d0, .val d1, .val d2, .val d3, .emp, .emp, .emp, .emp, .emp, .emp, .emp] []) := by
  rw [callP_row (g := F_joined) rfl rfl rfl rfl]; rfl
theorem run_lines_then (n : Nat) (d0 d1 d2 : D) : callP P0 (n + 1) 116 [d0, d1, d2] = fin (evSs (tab P0 n) L_lines_then [.val d0, .val d1, .val d2, .emp, .emp, .emp, .emp, .emp] []) := by
  rw [callP_row (g := F_lines_then) rfl rfl rfl rfl]; rfl
theorem run_parted_at (n : Nat) (d0 d1 d2 : D) : callP P0 (n + 1) 117 [d0, d1, d2] = fin (evSs (tab P0 n) L_parted_at [.val d0, .val d1, .val d2, .emp, .emp, .emp, .emp] []) := by
  rw [callP_row (g := F_parted_at) rfl rfl rfl rfl]; rfl
theorem run_need_two (n : Nat) (d0 d1 d2 : D) : callP P0 (n + 1) 118 [d0, d1, d2] = fin (evSs (tab P0 n) L_need_two [.val d0, .val d1, .val d2] []) := by
  rw [callP_row (g := F_need_two) rfl rfl rfl rfl]; rfl
theorem run_parting (n : Nat) (d0 d1 d2 : D) : callP P0 (n + 1) 120 [d0, d1, d2] = fin (evSs (tab P0 n) L_parting [.val d0, .val d1, .val d2] []) := by
  rw [callP_row (g := F_parting) rfl rfl rfl rfl]; rfl
theorem run_idle_steps (n : Nat) (d0 d1 : D) : callP P0 (n + 1) 125 [d0, d1] = fin (evSs (tab P0 n) L_idle_steps [.val d0, .val d1, .emp, .emp] []) := by
  rw [callP_row (g := F_idle_steps) rfl rfl rfl rfl]; rfl
theorem run_dry_in (n : Nat) (d0 d1 d2 : D) : callP P0 (n + 1) 128 [d0, d1, d2] = fin (evSs (tab P0 n) L_dry_in [.val d0, .val d1, .val d2, .emp, .emp, .emp, .emp] []) := by
  rw [callP_row (g := F_dry_in) rfl rfl rfl rfl]; rfl
theorem run_dry_until (n : Nat) (d0 d1 d2 : D) : callP P0 (n + 1) 129 [d0, d1, d2] = fin (evSs (tab P0 n) L_dry_until [.val d0, .val d1, .val d2] []) := by
  rw [callP_row (g := F_dry_until) rfl rfl rfl rfl]; rfl
theorem run_all_lots (n : Nat) (d0 : D) : callP P0 (n + 1) 132 [d0] = fin (evSs (tab P0 n) L_all_lots [.val d0, .emp, .emp, .emp, .emp] []) := by
  rw [callP_row (g := F_all_lots) rfl rfl rfl rfl]; rfl
theorem run_least_gates (n : Nat) (d0 d1 d2 : D) : callP P0 (n + 1) 133 [d0, d1, d2] = fin (evSs (tab P0 n) L_least_gates [.val d0, .val d1, .val d2, .emp, .emp, .emp, .emp, .emp] []) := by
  rw [callP_row (g := F_least_gates) rfl rfl rfl rfl]; rfl
theorem run_need_result (n : Nat) (d0 : D) : callP P0 (n + 1) 152 [d0] = fin (evSs (tab P0 n) L_need_result [.val d0] []) := by
  rw [callP_row (g := F_need_result) rfl rfl rfl rfl]; rfl
theorem run_longer (n : Nat) (d0 d1 : D) : callP P0 (n + 1) 153 [d0, d1] = fin (evSs (tab P0 n) L_longer [.val d0, .val d1, .emp] []) := by
  rw [callP_row (g := F_longer) rfl rfl rfl rfl]; rfl
theorem run_shorter (n : Nat) (d0 d1 : D) : callP P0 (n + 1) 154 [d0, d1] = fin (evSs (tab P0 n) L_shorter [.val d0, .val d1, .emp] []) := by
  rw [callP_row (g := F_shorter) rfl rfl rfl rfl]; rfl
theorem run_is_wet_ever (n : Nat) (d0 : D) : callP P0 (n + 1) 155 [d0] = fin (evSs (tab P0 n) L_is_wet_ever [.val d0, .emp, .emp] []) := by
  rw [callP_row (g := F_is_wet_ever) rfl rfl rfl rfl]; rfl
theorem run__law_mirrored (n : Nat) (d0 d1 : D) : callP P0 (n + 1) 156 [d0, d1] = fin (evSs (tab P0 n) L__law_mirrored [.val d0, .val d1, .emp, .emp, .emp, .emp, .emp, .emp, .emp, .emp] []) := by
  rw [callP_row (g := F__law_mirrored) rfl rfl rfl rfl]; rfl
theorem run__law_ranges_right (n : Nat) (d0 d1 d2 d3 : D) (B : Bg) : callB P0 (n + 1) 157 [d0, d1, d2, d3] B = endD (evSs (tab P0 n) L__law_ranges_right [.bag, .val d0, .val d1, .val d2, .val d3, .emp, .emp, .emp, .emp, .emp, .emp, .emp, .emp] B) := by
  rw [callB_row (g := F__law_ranges_right) rfl rfl rfl]; rfl
theorem run_written_k15 (n : Nat) (d0 : D) : callP P0 (n + 1) 176 [d0] = fin (evSs (tab P0 n) L_written_k15 [.val d0, .emp, .emp, .emp, .emp, .emp] []) := by
  rw [callP_row (g := F_written_k15) rfl rfl rfl rfl]; rfl
theorem run_land_text (n : Nat) (d0 : D) : callP P0 (n + 1) 177 [d0] = fin (evSs (tab P0 n) L_land_text [.val d0] []) := by
  rw [callP_row (g := F_land_text) rfl rfl rfl rfl]; rfl
theorem run_figures_in (n : Nat) (d0 : D) : callP P0 (n + 1) 178 [d0] = fin (evSs (tab P0 n) L_figures_in [.val d0, .emp] []) := by
  rw [callP_row (g := F_figures_in) rfl rfl rfl rfl]; rfl
theorem run_read_land (n : Nat) (d0 : D) : callP P0 (n + 1) 179 [d0] = fin (evSs (tab P0 n) L_read_land [.val d0, .emp, .emp, .emp, .emp, .emp] []) := by
  rw [callP_row (g := F_read_land) rfl rfl rfl rfl]; rfl
theorem run__law_text (n : Nat) (d0 : D) : callP P0 (n + 1) 180 [d0] = fin (evSs (tab P0 n) L__law_text [.val d0, .emp, .emp, .emp, .emp, .emp] []) := by
  rw [callP_row (g := F__law_text) rfl rfl rfl rfl]; rfl
theorem run__law_figures (n : Nat) (d0 : D) : callP P0 (n + 1) 181 [d0] = fin (evSs (tab P0 n) L__law_figures [.val d0, .emp] []) := by
  rw [callP_row (g := F__law_figures) rfl rfl rfl rfl]; rfl
theorem run__law_read (n : Nat) (d0 : D) : callP P0 (n + 1) 182 [d0] = fin (evSs (tab P0 n) L__law_read [.val d0, .emp, .emp, .emp, .emp, .emp] []) := by
  rw [callP_row (g := F__law_read) rfl rfl rfl rfl]; rfl
theorem run__law_bent (n : Nat) (d0 : D) (B : Bg) : callB P0 (n + 1) 183 [d0] B = endD (evSs (tab P0 n) L__law_bent [.bag, .val d0, .emp, .emp, .emp, .emp, .emp, .emp] B) := by
  rw [callB_row (g := F__law_bent) rfl rfl rfl]; rfl
theorem run_law_k15 (n : Nat) (d0 : D) : callP P0 (n + 1) 184 [d0] = fin (evSs (tab P0 n) L_law_k15 [.val d0, .emp, .emp, .emp, .emp, .emp, .emp, .emp, .emp, .emp, .emp] []) := by
  rw [callP_row (g := F_law_k15) rfl rfl rfl rfl]; rfl
end PD
set_option Elab.async false
set_option linter.all false
set_option maxRecDepth 100000
set_option maxHeartbeats 0
namespace K15
open PySem PySem.Spec PyProof.Rows L2 PD
def top (i : Nat) : Stmt := PySem.Challenge.pw_anyrain_k15_texts_of_lands.main.body.getD i (.Pass ⟨0, 0, 0, 0⟩)
def fe (x : Str) (i np : Nat) (b n : Bool) : Str × Nat × Nat × Bool × Bool := (x, i, np, b, n)
def fns0 : Fns := [fe "is_plain" 0 1 false false, fe "is_whole" 1 3 false false, fe "are_heights" 2 1 false false, fe "is_gate" 3 2 false false, fe "is_land" 4 1 false false, fe "need_land" 11 1 false false, fe "written" 176 1 false false, fe "land_text" 177 1 false false, fe "figures_in" 178 1 false false, fe "read_land" 179 1 false false, fe "_law_cell" 14 2 false false, fe "_law_draws" 15 4 false true, fe "_law_bag" 16 2 false true, fe "_law_take" 17 2 true false, fe "_law_choice" 18 2 true false, fe "_law_land" 20 1 true false, fe "_law_text" 180 1 false false, fe "_law_figures" 181 1 false false, fe "_law_read" 182 1 false false, fe "_law_bent" 183 2 true false]
def fns : Fns := fns0
def gcs : List (Str × Nat) := []
def excs : List (Str × Nat) := [("RainError", 0), ("InvalidLand", 1), ("InvalidScript", 2), ("InvalidAmount", 3), ("InvalidNumber", 4), ("InvalidFacts", 5), ("InvalidText", 6), ("TooLate", 7), ("NothingToUndo", 8)]
def blts : List Str := ["all", "bool", "int", "isinstance", "len", "range", "set", "sorted", "str", "tuple", "zip"]
def c_is_plain : Ct := ⟨["value"], defScope (top 11), true, [], false, none, false, fns, gcs, excs, blts, []⟩
def dr_is_plain : DRow := ⟨"is_plain", 0, ["value"], false, top 11, c_is_plain⟩
def c_is_whole : Ct := ⟨["value", "low", "high"], defScope (top 12), true, [], false, none, false, fns, gcs, excs, blts, []⟩
def dr_is_whole : DRow := ⟨"is_whole", 1, ["value", "low", "high"], false, top 12, c_is_whole⟩
def c_are_heights : Ct := ⟨["value", "part"], defScope (top 13), true, [], false, none, false, fns, gcs, excs, blts, []⟩
def dr_are_heights : DRow := ⟨"are_heights", 2, ["value"], false, top 13, c_are_heights⟩
def c_is_gate : Ct := ⟨["value", "columns"], defScope (top 14), true, [], false, none, false, fns, gcs, excs, blts, []⟩
def dr_is_gate : DRow := ⟨"is_gate", 3, ["value", "columns"], false, top 14, c_is_gate⟩
def c_is_land : Ct := ⟨["value", "heights", "gates", "rain", "gate", "one", "other", "part"], defScope (top 15), true, [], false, none, false, fns, gcs, excs, blts, []⟩
def dr_is_land : DRow := ⟨"is_land", 4, ["value"], false, top 15, c_is_land⟩
def c_need_land : Ct := ⟨["land"], defScope (top 16), true, [], false, none, false, fns, gcs, excs, blts, []⟩
def dr_need_land : DRow := ⟨"need_land", 11, ["land"], false, top 16, c_need_land⟩
def c_written : Ct := ⟨["land", "rows", "height", "column", "more", "shut"], defScope (top 18), true, [1], false, none, false, fns, gcs, excs, blts, []⟩
def dr_written : DRow := ⟨"written", 176, ["land"], false, top 18, c_written⟩
def c_land_text : Ct := ⟨["land"], defScope (top 19), true, [], false, none, false, fns, gcs, excs, blts, []⟩
def dr_land_text : DRow := ⟨"land_text", 177, ["land"], false, top 19, c_land_text⟩
def c_figures_in : Ct := ⟨["words", "word"], defScope (top 20), true, [], false, none, false, fns, gcs, excs, blts, []⟩
def dr_figures_in : DRow := ⟨"figures_in", 178, ["words"], false, top 20, c_figures_in⟩
def c_read_land : Ct := ⟨["value", "rows", "line", "gates", "row", "found"], defScope (top 21), true, [], false, none, false, fns, gcs, excs, blts, []⟩
def dr_read_land : DRow := ⟨"read_land", 179, ["value"], false, top 21, c_read_land⟩
def c__law_cell : Ct := ⟨["script", "k"], defScope (top 23), true, [], false, none, false, fns, gcs, excs, blts, []⟩
def dr__law_cell : DRow := ⟨"_law_cell", 14, ["script", "k"], false, top 23, c__law_cell⟩
def c__law_draws : Ct := ⟨["script", "k", "many", "base", "primes", "cell", "rest", "row", "j", "mash"], defScope (top 24), true, [7], true, none, false, fns, gcs, excs, blts, []⟩
def dr__law_draws : DRow := ⟨"_law_draws", 15, ["script", "k", "many", "base"], false, top 24, c__law_draws⟩
def c__law_bag : Ct := ⟨["script", "k"], defScope (top 25), true, [], true, none, false, fns, gcs, excs, blts, []⟩
def dr__law_bag : DRow := ⟨"_law_bag", 16, ["script", "k"], false, top 25, c__law_bag⟩
def c__law_take : Ct := ⟨["bag", "many", "draw"], defScope (top 26), true, [0], false, (some 0), false, fns, gcs, excs, blts, []⟩
def dr__law_take : DRow := ⟨"_law_take", 17, ["bag", "many"], true, top 26, c__law_take⟩
def c__law_choice : Ct := ⟨["bag", "some"], defScope (top 27), true, [0], false, (some 0), false, fns, gcs, excs, blts, []⟩
def dr__law_choice : DRow := ⟨"_law_choice", 18, ["bag", "some"], true, top 27, c__law_choice⟩
def c__law_land : Ct := ⟨["bag", "many", "heights", "column", "columns", "turn", "gates", "first", "last"], defScope (top 28), true, [0], false, (some 0), false, fns, gcs, excs, blts, []⟩
def dr__law_land : DRow := ⟨"_law_land", 20, ["bag"], true, top 28, c__law_land⟩
def c__law_text : Ct := ⟨["land", "rows", "height", "column", "more", "is_shut"], defScope (top 31), true, [1], false, none, false, fns, gcs, excs, blts, []⟩
def dr__law_text : DRow := ⟨"_law_text", 180, ["land"], false, top 31, c__law_text⟩
def c__law_figures : Ct := ⟨["words", "word"], defScope (top 32), true, [], false, none, false, fns, gcs, excs, blts, []⟩
def dr__law_figures : DRow := ⟨"_law_figures", 181, ["words"], false, top 32, c__law_figures⟩
def c__law_read : Ct := ⟨["text", "rows", "line", "gates", "row", "found"], defScope (top 33), true, [], false, none, false, fns, gcs, excs, blts, []⟩
def dr__law_read : DRow := ⟨"_law_read", 182, ["text"], false, top 33, c__law_read⟩
def c__law_bent : Ct := ⟨["bag", "text", "at", "way", "rows", "line", "sign", "words"], defScope (top 34), true, [0], false, (some 0), false, fns, gcs, excs, blts, []⟩
def dr__law_bent : DRow := ⟨"_law_bent", 183, ["bag", "text"], true, top 34, c__law_bent⟩
def c_law : Ct := ⟨["script", "k", "bag", "land", "text", "turn", "bent", "due", "answer", "odd", "some"], defScope (top 35), true, [2], false, (some 2), true, fns, gcs, excs, blts, [("_law_told", true)]⟩
def dr_law : DRow := ⟨"law", 184, ["script"], false, top 35, c_law⟩
def rs0 : List DRow := [dr_is_plain, dr_is_whole, dr_are_heights, dr_is_gate, dr_is_land, dr_need_land, dr_written, dr_land_text, dr_figures_in, dr_read_land, dr__law_cell, dr__law_draws, dr__law_bag, dr__law_take, dr__law_choice, dr__law_land, dr__law_text, dr__law_figures, dr__law_read, dr__law_bent]
def rs : List DRow := rs0
def fn : List He.DefD := rs.map (fun r => mkD r.x r.st) ++ [mkD "_law_named_error" (top 29), mkD "_law_told" (top 30), mkD "law" (top 35)]
def fa : List He.Fa := rs.map (fun r => He.Fa.glo r.x) ++ [.glo "_law_named_error", .glo "_law_told", .glo "law", .free "ValueError"] ++ excs.map (fun p => He.Fa.glo p.1) ++ excs.map (fun p => He.Fa.exc p.1) ++ blts.map He.Fa.free
def tf : List He.Defn := [("law", none)]
def loose0 : List Str := ["is_plain", "is_whole", "are_heights", "is_gate", "is_land", "need_land", "written", "land_text", "figures_in", "read_land", "_law_cell", "_law_draws", "_law_bag", "_law_take", "_law_choice", "_law_land", "_law_named_error", "_law_told", "_law_text", "_law_figures", "_law_read", "_law_bent", "RainError", "InvalidLand", "InvalidScript"]
def loose1 : List Str := ["InvalidAmount", "InvalidNumber", "InvalidFacts", "InvalidText", "TooLate", "NothingToUndo"]
def loose : List Str := loose0 ++ loose1
abbrev R : PySem.W.OpenRow := PySem.W.OpenLaw.row PySem.Challenge.rw_anyrain_k15_texts_of_lands
def ex (K : PySem.W.Frag) : Bool := exChk K ens0
abbrev hk : PySem.W.Hook := He.hookX 4 fa fn [] tf ex
def ob (s : PySem.W.SharedT) : He.AlX := He.obsX 4 fa fn [] tf ex (HandSHeadRun.getT s)
theorem ob_eq (s : PySem.W.SharedT) : ob s = hk.obs s.abs := He.obsX_eq (HandSHeadRun.getT_eq s)
theorem run (w : World) : HandSHeadRun.RunEq R (PySem.W.view R.prog [35]) hk ob 6000 loose w := by
  intro os
  kernel_rfl
theorem oks : rs.all DRow.ok = true := by decide +kernel
theorem lawOk : (scOk dr_law.C.N dr_law.ps (defScope dr_law.st) && (cSs 40 dr_law.C (defBody dr_law.st)).isSome) = true := by decide +kernel
theorem lawFn : P0.fn dr_law.id = some dr_law.fn := by kernel_rfl
theorem all_cons {P : DRow → Prop} {r : DRow} {l : List DRow} (h : P r) (t : ∀ r ∈ l, P r) : ∀ x ∈ r :: l, P x := fun x hx => by
  rcases List.mem_cons.mp hx with e | e
  · rw [e]; exact h
  · exact t x e
theorem all_nil {P : DRow → Prop} : ∀ x ∈ ([] : List DRow), P x := fun x hx => nomatch hx
theorem all_app {P : DRow → Prop} {l m : List DRow} (h : ∀ r ∈ l, P r) (t : ∀ r ∈ m, P r) : ∀ x ∈ l ++ m, P x := fun x hx => (List.mem_append.mp hx).elim (h x) (t x)
structure RowOk (r : DRow) : Prop where
  C : r.C.fns = fns ∧ r.C.gcs = gcs ∧ r.C.excs = excs ∧ r.C.blts = blts
  sc : r.C.sc = defScope r.st
  at_ : P0.fn r.id = some r.fn
  bind : BindE r.x r.st r.ps
theorem rowsOk0 : ∀ r ∈ rs0, RowOk r :=
  all_cons ⟨⟨rfl, rfl, rfl, rfl⟩, rfl, (by kernel_rfl), fun _ _ _ _ _ _ us hl => match us, hl with | [_], _ => rfl⟩ <|
  all_cons ⟨⟨rfl, rfl, rfl, rfl⟩, rfl, (by kernel_rfl), fun _ _ _ _ _ _ us hl => match us, hl with | [_, _, _], _ => rfl⟩ <|
  all_cons ⟨⟨rfl, rfl, rfl, rfl⟩, rfl, (by kernel_rfl), fun _ _ _ _ _ _ us hl => match us, hl with | [_], _ => rfl⟩ <|
  all_cons ⟨⟨rfl, rfl, rfl, rfl⟩, rfl, (by kernel_rfl), fun _ _ _ _ _ _ us hl => match us, hl with | [_, _], _ => rfl⟩ <|
  all_cons ⟨⟨rfl, rfl, rfl, rfl⟩, rfl, (by kernel_rfl), fun _ _ _ _ _ _ us hl => match us, hl with | [_], _ => rfl⟩ <|
  all_cons ⟨⟨rfl, rfl, rfl, rfl⟩, rfl, (by kernel_rfl), fun _ _ _ _ _ _ us hl => match us, hl with | [_], _ => rfl⟩ <|
  all_cons ⟨⟨rfl, rfl, rfl, rfl⟩, rfl, (by kernel_rfl), fun _ _ _ _ _ _ us hl => match us, hl with | [_], _ => rfl⟩ <|
  all_cons ⟨⟨rfl, rfl, rfl, rfl⟩, rfl, (by kernel_rfl), fun _ _ _ _ _ _ us hl => match us, hl with | [_], _ => rfl⟩ <|
  all_cons ⟨⟨rfl, rfl, rfl, rfl⟩, rfl, (by kernel_rfl), fun _ _ _ _ _ _ us hl => match us, hl with | [_], _ => rfl⟩ <|
  all_cons ⟨⟨rfl, rfl, rfl, rfl⟩, rfl, (by kernel_rfl), fun _ _ _ _ _ _ us hl => match us, hl with | [_], _ => rfl⟩ <|
  all_cons ⟨⟨rfl, rfl, rfl, rfl⟩, rfl, (by kernel_rfl), fun _ _ _ _ _ _ us hl => match us, hl with | [_, _], _ => rfl⟩ <|
  all_cons ⟨⟨rfl, rfl, rfl, rfl⟩, rfl, (by kernel_rfl), fun _ _ _ _ _ _ us hl => match us, hl with | [_, _, _, _], _ => rfl⟩ <|
  all_cons ⟨⟨rfl, rfl, rfl, rfl⟩, rfl, (by kernel_rfl), fun _ _ _ _ _ _ us hl => match us, hl with | [_, _], _ => rfl⟩ <|
  all_cons ⟨⟨rfl, rfl, rfl, rfl⟩, rfl, (by kernel_rfl), fun _ _ _ _ _ _ us hl => match us, hl with | [_, _], _ => rfl⟩ <|
  all_cons ⟨⟨rfl, rfl, rfl, rfl⟩, rfl, (by kernel_rfl), fun _ _ _ _ _ _ us hl => match us, hl with | [_, _], _ => rfl⟩ <|
  all_cons ⟨⟨rfl, rfl, rfl, rfl⟩, rfl, (by kernel_rfl), fun _ _ _ _ _ _ us hl => match us, hl with | [_], _ => rfl⟩ <|
  all_cons ⟨⟨rfl, rfl, rfl, rfl⟩, rfl, (by kernel_rfl), fun _ _ _ _ _ _ us hl => match us, hl with | [_], _ => rfl⟩ <|
  all_cons ⟨⟨rfl, rfl, rfl, rfl⟩, rfl, (by kernel_rfl), fun _ _ _ _ _ _ us hl => match us, hl with | [_], _ => rfl⟩ <|
  all_cons ⟨⟨rfl, rfl, rfl, rfl⟩, rfl, (by kernel_rfl), fun _ _ _ _ _ _ us hl => match us, hl with | [_], _ => rfl⟩ <|
  all_cons ⟨⟨rfl, rfl, rfl, rfl⟩, rfl, (by kernel_rfl), fun _ _ _ _ _ _ us hl => match us, hl with | [_, _], _ => rfl⟩ <|
  all_nil
theorem rowsOk : ∀ r ∈ rs, RowOk r := rowsOk0
theorem fns_eq : fns = rs.map DRow.ent := by rfl
def U (w : World) (K : PySem.W.Frag) (mg : Str → Option Value) (base : Heap) : Wd := ⟨(PySem.Challenge.rw_anyrain_k15_texts_of_lands).prog, w, K, mg, base, lawT K "law" (top 35), clsOf K ens0, P0⟩
theorem ens_at : ∀ p ∈ excs, (ens0[p.2]?).map (·.1) = some p.1 := by decide +kernel
theorem own_ex : ∀ c ∈ ownCls, (excs.lookup c).isSome = true := by decide +kernel
section
variable {w : World} {K : PySem.W.Frag} {h : Heap} {mg : Str → Option Value} {base : Heap}
theorem fa_row {r : DRow} (hr : r ∈ rs) : He.Fa.glo r.x ∈ fa := by
  unfold fa
  exact List.mem_append_left _ (List.mem_append_left _ (List.mem_append_left _ (List.mem_append_left _ (List.mem_map.mpr ⟨r, hr, rfl⟩))))
theorem fa_mid {f : He.Fa} (hf : f ∈ ([.glo "_law_named_error", .glo "_law_told", .glo "law", .free "ValueError"] : List He.Fa)) : f ∈ fa := by
  unfold fa
  exact List.mem_append_left _ (List.mem_append_left _ (List.mem_append_left _ (List.mem_append_right _ hf)))
theorem fa_glo {p : Str × Nat} (hp : p ∈ excs) : He.Fa.glo p.1 ∈ fa := by
  unfold fa
  exact List.mem_append_left _ (List.mem_append_left _ (List.mem_append_right _ (List.mem_map.mpr ⟨p, hp, rfl⟩)))
theorem fa_exc {p : Str × Nat} (hp : p ∈ excs) : He.Fa.exc p.1 ∈ fa := by
  unfold fa
  exact List.mem_append_left _ (List.mem_append_right _ (List.mem_map.mpr ⟨p, hp, rfl⟩))
theorem fa_blt {x : Str} (hx : x ∈ blts) : He.Fa.free x ∈ fa := by
  unfold fa
  exact List.mem_append_right _ (List.mem_map.mpr ⟨x, hx, rfl⟩)
theorem fn_row {r : DRow} (hr : r ∈ rs) : mkD r.x r.st ∈ fn := by
  unfold fn
  exact List.mem_append_left _ (List.mem_map.mpr ⟨r, hr, rfl⟩)
theorem fn_mid {d : He.DefD} (hd : d ∈ [mkD "_law_named_error" (top 29), mkD "_law_told" (top 30), mkD "law" (top 35)]) : d ∈ fn := by
  unfold fn
  exact List.mem_append_right _ hd
theorem blt_none (X : K.In h) (G : h.Ns mainGlobals mg) (c : He.SaysD fa fn K) {x : Str} (hx : x ∈ blts) : mg x = none := He.free_ok X G (He.SaysD.facts c (fa_blt hx))
theorem own_glo (X : K.In h) (G : h.Ns mainGlobals mg) (c : He.SaysD fa fn K) : ∀ x ∈ ownCls, mg x = some (.ref (He.ga K x)) := fun x hx => by
  obtain ⟨n, hn⟩ := Option.isSome_iff_exists.mp (own_ex x hx)
  exact He.glo_ok X G (He.SaysD.facts c (fa_glo (mem_of_lk hn)))
theorem fcts (X : K.In h) (G : h.Ns mainGlobals mg) (c : He.SaysD fa fn K) : (U w K mg base).facts gcs excs blts := by
  refine facts_of (fun p hp => ?_) (fun x hx => blt_none X G c hx) fun p hp => ⟨He.SaysD.facts c (fa_exc hp), He.glo_ok X G (He.SaysD.facts c (fa_glo hp)), ?_⟩
  · exact nomatch hp
  · show clsOf K ens0 p.2 = _
    unfold clsOf
    rw [ens_at p hp]; rfl
theorem at_all (X : K.In h) (G : h.Ns mainGlobals mg) (c : He.SaysD fa fn K) : ∀ r ∈ rs, r.At (U w K mg base) := fun r hr => by
  have o := rowsOk r hr
  obtain ⟨fd, F, hm, hb⟩ := def_at X G c (fn_row hr) (fa_row hr) o.bind
  refine ⟨⟨_, fd, F, hm, hb⟩, List.all_eq_true.mp oks r hr, o.sc, rfl, ?_⟩
  exact o.at_
theorem knows (X : K.In h) (G : h.Ns mainGlobals mg) (c : He.SaysD fa fn K) : ∀ n, (U w K mg base).knows n fns := knows_all fns_eq (fun r hr => (rowsOk r hr).C) (fcts X G c) (at_all X G c)
theorem law_fn (n : Nat) (X : K.In h) (G : h.Ns mainGlobals mg) (c : He.SaysX fa fn [] tf ex w h K) : ∃ fd : FuncData, (∀ (s : Shared) (v : Value), BindsTo s fd ⟨[v], []⟩ [("script", v)]) ∧ mg "law" = some (.ref (He.ga K "law")) ∧ ∀ base : Heap, K.In base → base.Ns mainGlobals mg →
    (∀ p ∈ tf.map (He.cT K), LamX.TabB base mg p.1 p.2) → FnOk (PySem.Challenge.rw_anyrain_k15_texts_of_lands).prog w K mg base (L2N.CX (PySem.Challenge.rw_anyrain_k15_texts_of_lands).prog w) (3 * (n + 1)) (He.ga K "law") fd ["script"] (spP (lawT K "law" (top 35)) (clsOf K ens0) (callP P0 (n + 1)) false K dr_law.id 1) := by
  have cd : He.SaysD fa fn K := c.t.d
  have hbl : BindE "law" (top 35) ["script"] := fun _ _ _ _ _ _ us hl => match us, hl with | [_], _ => rfl
  obtain ⟨fd, F, hm, hb⟩ := def_at X G cd (x := "law") (st := top 35) (ps := ["script"]) (fn_mid (by simp)) (fa_mid (by simp)) hbl
  have lk := lawOk
  simp only [Bool.and_eq_true] at lk
  have nd : NeDef K mg "_law_named_error" := neDef_of (sc2 := ((neB (defBody (top 29))).getD (defScope (top 35)))) X G cd (x := "_law_named_error") (st := top 29) (fn_mid (by simp)) (fa_mid (by simp)) (fun _ _ _ _ _ _ us hl => match us, hl with | [_], _ => rfl) (by decide +kernel) rfl (by decide +kernel)
  have ed : ToldDef K mg "_law_told" (He.ga K "RainError") := toldDef_of X G cd (x := "_law_told") (r := "RainError") (n := "_law_named_error") (st := top 30) (fn_mid (by simp)) (fa_mid (by simp)) (fun _ _ _ _ _ _ us hl => match us, hl with | [_], _ => rfl) (by decide +kernel) (by decide +kernel) nd (by decide +kernel)
    (fa_glo (p := ("RainError", 0)) (by decide +kernel)) (by decide +kernel) (by decide +kernel) (by decide) (by decide)
  refine ⟨fd, fun s v => FunD.bindsA (ps := ["script"]) F hbl s [v] rfl, hm, fun base hb1 hb2 hT => ?_⟩
  exact law_okT (U := U w K mg base) (r := dr_law) (ens := ens0) (knows X G cd n) (fcts X G cd) F rfl lk.1 lk.2 rfl lawFn rfl rfl (fun x lb hx => by
    have := mem_of_lk hx
    exact Prod.mk.inj (List.mem_singleton.mp this)) (by decide +kernel) ed (hT _ (List.mem_map.mpr ⟨("law", none), List.mem_singleton.mpr rfl, rfl⟩)) c.more rfl rfl (own_glo X G cd) (He.free_ok X G (He.SaysD.facts cd (fa_mid (by simp)))) (blt_none X G cd (by decide +kernel)) (blt_none X G cd (by decide +kernel))
end
/-- the plain law -/
def Plain (n : Nat) : Prop := ∀ ns : List Int, ns.length ≤ 63 → (∀ z ∈ ns, Builtin.Int.intBits z ≤ 1048576) → callP P0 (n + 1) dr_law.id [.list (ns.map PyData.int)] = .ok (.bool true)
end K15
open PySem PySem.W PySem.Calls PyProof.Rows in
theorem K15.holds_of {n : Nat} (hn : n ≤ 50) (hp : K15.Plain n) : PySem.Challenge.rw_anyrain_k15_texts_of_lands.Holds := by
  w_on; o_law
  refine HandSHeadRun.head_any (r := OpenLaw.row PySem.Challenge.rw_anyrain_k15_texts_of_lands) (q := view (OpenLaw.row PySem.Challenge.rw_anyrain_k15_texts_of_lands).prog [35]) (H := K15.hk) (ob := K15.ob) (M := 6000) (loose := K15.loose) (d := HandSHeadRun.topDef (OpenLaw.row PySem.Challenge.rw_anyrain_k15_texts_of_lands).prog 35) (kwd := []) K15.ob_eq
    (by kernel_rfl) (fun s => by kernel_rfl) K15.run (by kernel_rfl) (by kernel_rfl) (by kernel_rfl) (by rfl) (by first | assumption | decide +kernel) (by decide +kernel) ⟨rfl, rfl, rfl, rfl, rfl, by decide +kernel⟩ ?hw ?hc
  case hw => w_witness2
  case hc =>
    refine LamX.walk_ofTsE (l := PySem.Challenge.rw_anyrain_k15_texts_of_lands) (n := 63) (k := 3 * (n + 1)) (x := "script") (CX := fun w => L2N.CX (PySem.Challenge.rw_anyrain_k15_texts_of_lands).prog w) rfl (by decide) (by kernel_rfl) ((show L2.Room 153 callerA from ⟨rfl, by decide, by decide⟩).mono (by omega)) ?F ?X
    case F =>
      intro w mg fa h Y G hmg0
      obtain ⟨K, KX, c⟩ := Y
      have hmg : mg ("law" : PySem.Str) = some (.ref fa) := by
        have e : (HandSHeadRun.topDef (OpenLaw.row PySem.Challenge.rw_anyrain_k15_texts_of_lands).prog 35).name = ("law" : PySem.Str) := by kernel_rfl
        rw [← e]
        exact hmg0
      obtain ⟨fd, hb, hm, hF⟩ := K15.law_fn n KX G c
      have e := hmg.symm.trans hm
      cases e
      refine ⟨K, KX, fd, K15.tf.map (He.cT K), _, fun p hp => ?_, fun p hp => ?_, fun p hp => ?_, hb, fun H a ns hl hbits hT hS => PD.sp_law (U := K15.U w K mg h) (hp ns hl hbits) (fun p hp => ?_) hS (Nat.le_trans hl (by decide)), hF⟩
      · obtain ⟨q, hq, rfl⟩ := List.mem_map.mp hp
        exact c.empty q hq
      · obtain ⟨q, hq, rfl⟩ := List.mem_map.mp hp
        exact c.out q hq
      · obtain ⟨q, hq, rfl⟩ := List.mem_map.mp hp
        exact codeHd_of_K KX (c.hd q hq)
      · rw [List.mem_singleton.mp hp]
        exact hT (He.cT K ("law", none)) (List.mem_map.mpr ⟨_, List.mem_singleton.mpr rfl, rfl⟩)
    case X =>
      intro w H s e s' ⟨a, B, H', cls, d, _, _, _, _, _, _, _, z⟩
      exact z
set_option linter.all false
set_option maxRecDepth 100000
set_option maxHeartbeats 1000000
/-! What is wanted behind an evaluation that raises nothing. The continuations are not looked into (congr). -/
namespace PD
open PySem PySem.Spec PyProof.Rows L2
/-- a turn of a comprehension -/
def turn (Γ : Tab) (elt : ME) (t : Tgt) (c : MO) (vs : List Nat) (σ : SEnv) (d : D) (B : Bg) : M (Option D) := match bindT t d (wipeE σ vs) with
  | none => .stuck
  | some τ => R.quiet ((evc Γ c τ B).bind fun ok B => match ok with
    | true => (ev Γ elt τ B).bind fun x B => .ok (some x, B)
    | false => .ok (none, B))
/-- what zip goes over -/
def zipV : D → D → Option (List D)
  | .list xs, .list ys => some (zipD xs ys)
  | .tuple xs, .tuple ys => some (zipD xs ys)
  | _, _ => none
@[simp] theorem zipV_L {xs ys : List D} : zipV (.list xs) (.list ys) = some (zipD xs ys) := rfl
@[simp] theorem zipV_T {xs ys : List D} : zipV (.tuple xs) (.tuple ys) = some (zipD xs ys) := rfl
/-- a slot that holds the bag -/
def bagAt (σ : SEnv) (i : Nat) : Bool := match σ[i]? with
  | some .bag => true
  | _ => false
end PD
namespace PW0
open PD
open PySem PySem.Spec PyProof.Rows L2
/-- it gives a value, and Q holds of it -/
def W {α : Type} (x : M α) (Q : α → Bg → Prop) : Prop := ∃ a B, x = .ok (a, B) ∧ Q a B
def Wo {α : Type} (o : Option α) (Q : α → Prop) : Prop := ∃ x, o = some x ∧ Q x
def Wr {α : Type} (r : R α) (Q : α → Prop) : Prop := ∃ x, r = .ok x ∧ Q x
def Wb (d : D) (Q : Bool → Prop) : Prop := ∃ t, d = .bool t ∧ Q t
def Wi (d : D) (Q : Int → Prop) : Prop := ∃ t, d = .int t ∧ Q t
def Wl (d : D) (Q : List D → Prop) : Prop := ∃ t, d = .list t ∧ Q t
def Ws (d : D) (Q : Str → Prop) : Prop := ∃ t, d = .str t ∧ Q t
def Wf (f : Fl) (a : SEnv → Prop) (b : D → Prop) : Prop := match f with
  | .nx σ => a σ
  | .rt d => b d
def Wc (s : Option Sl) (Q : List D → Prop) : Prop := ∃ ds, s = some (.own ds) ∧ Q ds
@[simp] theorem Wo_some {α : Type} {x : α} {Q : α → Prop} : Wo (some x) Q ↔ Q x := by simp [Wo]
@[simp] theorem Wo_none {α : Type} {Q : α → Prop} : Wo none Q ↔ False := by simp [Wo]
@[simp] theorem Wr_ok {α : Type} {x : α} {Q : α → Prop} : Wr (.ok x) Q ↔ Q x := by simp [Wr]
@[simp] theorem Wr_err {α : Type} {c : Nat} {Q : α → Prop} : Wr (.err c) Q ↔ False := by simp [Wr]
@[simp] theorem Wr_stuck {α : Type} {Q : α → Prop} : Wr .stuck Q ↔ False := by simp [Wr]
@[simp] theorem Wb_bool {t : Bool} {Q : Bool → Prop} : Wb (.bool t) Q ↔ Q t := by simp [Wb]
@[simp] theorem Wi_int {t : Int} {Q : Int → Prop} : Wi (.int t) Q ↔ Q t := by simp [Wi]
@[simp] theorem Wl_list {t : List D} {Q : List D → Prop} : Wl (.list t) Q ↔ Q t := by simp [Wl]
@[simp] theorem Ws_str {t : Str} {Q : Str → Prop} : Ws (.str t) Q ↔ Q t := by simp [Ws]
@[simp] theorem Wf_nx {σ : SEnv} {a : SEnv → Prop} {b : D → Prop} : Wf (.nx σ) a b ↔ a σ := Iff.rfl
@[simp] theorem Wf_rt {d : D} {a : SEnv → Prop} {b : D → Prop} : Wf (.rt d) a b ↔ b d := Iff.rfl
@[simp] theorem Wc_own {ds : List D} {Q : List D → Prop} : Wc (some (.own ds)) Q ↔ Q ds := by simp [Wc]
section
variable {α β : Type} {Γ : Tab} {σ : SEnv} {B : Bg} {Q : D → Bg → Prop} {Qs : List D → Bg → Prop} {e a b c : ME} {es : MEs}
@[simp] theorem W_ok {x : α} {B : Bg} {Q : α → Bg → Prop} : W (.ok (x, B)) Q ↔ Q x B := by
  refine ⟨fun ⟨a, B', h, q⟩ => ?_, fun q => ⟨x, B, rfl, q⟩⟩
  cases h; exact q
@[simp] theorem W_stuck {Q : α → Bg → Prop} : W (.stuck : M α) Q ↔ False := ⟨fun ⟨_, _, h, _⟩ => (by cases h), False.elim⟩
@[simp] theorem W_err {n : Nat} {Q : α → Bg → Prop} : W (.err n : M α) Q ↔ False := ⟨fun ⟨_, _, h, _⟩ => (by cases h), False.elim⟩
@[simp] theorem W_bind {x : M α} {f : α → Bg → M β} {Q : β → Bg → Prop} : W (x.bind f) Q ↔ W x fun a B => W (f a B) Q := by
  rcases x with _ | ⟨a, B'⟩ | n
  · rw [W_stuck]; exact W_stuck
  · rw [W_ok]; rfl
  · rw [W_err]; exact W_err
@[simp] theorem W_ofO {o : Option α} {Q : α → Bg → Prop} : W (ofO B o) Q ↔ Wo o fun x => Q x B := by
  cases o <;> simp [ofO]
@[simp] theorem W_optB {o : Option Bool} : W (optB B o) Q ↔ Wo o fun x => Q (.bool x) B := by
  cases o <;> simp [optB]
theorem W_iff {x : M α} {P Q : α → Bg → Prop} (h : ∀ a B, P a B ↔ Q a B) : W x P ↔ W x Q := by
  have : P = Q := funext fun a => funext fun B => propext (h a B)
  rw [this]
theorem W_mono {x : M α} {P Q : α → Bg → Prop} (w : W x P) (h : ∀ a B, P a B → Q a B) : W x Q := by
  obtain ⟨a, B, e, p⟩ := w
  exact ⟨a, B, e, h a B p⟩
@[simp] theorem W_boolM {x : M D} {f : Bool → Bg → M β} {Q : β → Bg → Prop} : W (boolM x f) Q ↔ W x fun d B => Wb d fun t => W (f t B) Q := by
  unfold boolM
  rw [W_bind]
  refine W_iff fun d B => ?_
  cases d <;> simp [Wb]
@[simp] theorem W_var {i : Nat} : W (ev Γ (.var i) σ B) Q ↔ Wo (getV σ i) fun d => Q d B := by rw [ev, W_ofO]
@[simp] theorem W_con {d : D} : W (ev Γ (.con d) σ B) Q ↔ Q d B := by rw [ev, W_ok]
@[simp] theorem W_gcon {g : Nat} : W (ev Γ (.gcon g) σ B) Q ↔ Q (Γ.gc g) B := by rw [ev, W_ok]
@[simp] theorem W_tup : W (ev Γ (.tup es) σ B) Q ↔ W (evs Γ es σ B) fun ds B => Q (.tuple ds) B := by simp only [ev, W_bind, W_ok]
@[simp] theorem W_lst : W (ev Γ (.lst es) σ B) Q ↔ W (evs Γ es σ B) fun ds B => Q (.list ds) B := by simp only [ev, W_bind, W_ok]
@[simp] theorem W_bin {o : BinO} : W (ev Γ (.bin o a b) σ B) Q ↔ W (ev Γ a σ B) fun x B => W (ev Γ b σ B) fun y B => Wo (binD o x y) fun z => Q z B := by simp only [ev, W_bind, W_ofO]
@[simp] theorem W_nt : W (ev Γ (.nt a) σ B) Q ↔ W (ev Γ a σ B) fun x B => Wb x fun t => Q (.bool (!t)) B := by simp only [ev, W_boolM, W_ok]
@[simp] theorem W_cmp {o : CmpO} : W (ev Γ (.cmp o a b) σ B) Q ↔ W (ev Γ a σ B) fun x B => W (ev Γ b σ B) fun y B => Wo (cmpD o x y) fun t => Q (.bool t) B := by simp only [ev, W_bind, W_optB]
@[simp] theorem W_chain {o o' : CmpO} : W (ev Γ (.chain o o' a b c) σ B) Q ↔ W (ev Γ a σ B) fun x B => W (ev Γ b σ B) fun y B => Wo (cmpD o x y) fun t => if t = true then W (ev Γ c σ B) (fun z B => Wo (cmpD o' y z) fun u => Q (.bool u) B) else Q (.bool false) B := by
  simp only [ev, W_bind]
  refine W_iff fun x B => W_iff fun y B => ?_
  rcases h : cmpD o x y with _ | _ | _ <;> simp [h]
@[simp] theorem W_and : W (ev Γ (.andv a b) σ B) Q ↔ W (ev Γ a σ B) fun x B => Wb x fun t => if t = true then W (ev Γ b σ B) (fun y B => Wb y fun u => Q (.bool u) B) else Q (.bool false) B := by
  simp only [ev, W_boolM]
  refine W_iff fun x B => ?_
  cases x <;> simp [Wb]
  rename_i t
  cases t <;> simp [Wb]
@[simp] theorem W_or : W (ev Γ (.orv a b) σ B) Q ↔ W (ev Γ a σ B) fun x B => Wb x fun t => if t = true then Q (.bool true) B else W (ev Γ b σ B) (fun y B => Wb y fun u => Q (.bool u) B) := by
  simp only [ev, W_boolM]
  refine W_iff fun x B => ?_
  cases x <;> simp [Wb]
  rename_i t
  cases t <;> simp [Wb]
@[simp] theorem W_ite : W (ev Γ (.ite c a b) σ B) Q ↔ W (ev Γ c σ B) fun x B => Wb x fun t => if t = true then W (ev Γ a σ B) Q else W (ev Γ b σ B) Q := by
  simp only [ev, W_boolM]
  refine W_iff fun x B => ?_
  cases x <;> simp [Wb]
  rename_i t
  cases t <;> simp
@[simp] theorem W_ix : W (ev Γ (.ix a b) σ B) Q ↔ W (ev Γ a σ B) fun x B => W (ev Γ b σ B) fun y B => Wo (itemD x y) fun z => Q z B := by simp only [ev, W_bind, W_ofO]
@[simp] theorem W_call {f : Nat} : W (ev Γ (.call f es) σ B) Q ↔ W (evs Γ es σ B) fun ds B => Wr (Γ.call f ds) fun d => Q d B := by
  simp only [ev, W_bind]
  refine W_iff fun ds B => ?_
  cases h : Γ.call f ds <;> simp [R.bind]
@[simp] theorem W_blt {o : BltO} : W (ev Γ (.blt o a) σ B) Q ↔ W (ev Γ a σ B) fun x B => Wo (bltD o x) fun z => Q z B := by simp only [ev, W_bind, W_ofO]
@[simp] theorem W_blt2 {o : Blt2} : W (ev Γ (.blt2 o a b) σ B) Q ↔ W (ev Γ a σ B) fun x B => W (ev Γ b σ B) fun y B => Wo (blt2D o x y) fun z => Q z B := by simp only [ev, W_bind, W_ofO]
@[simp] theorem W_isi {t : Ty} : W (ev Γ (.isi a t) σ B) Q ↔ W (ev Γ a σ B) fun x B => Wo (isiD t x) fun u => Q (.bool u) B := by simp only [ev, W_bind, W_optB]
@[simp] theorem W_nil : W (evs Γ .nil σ B) Qs ↔ Qs [] B := by rw [evs, W_ok]
@[simp] theorem W_cons : W (evs Γ (.cons e es) σ B) Qs ↔ W (ev Γ e σ B) fun x B => W (evs Γ es σ B) fun xs B => Qs (x :: xs) B := by simp only [evs, W_bind, W_ok]
@[simp] theorem W_so {Qo : Option Int → Bg → Prop} : W (evo Γ (.so e) σ B) Qo ↔ W (ev Γ e σ B) fun x B => Wi x fun i => Qo (some i) B := by
  simp only [evo, W_bind]
  refine W_iff fun x B => ?_
  cases x <;> simp [Wi]
@[simp] theorem W_no {Qo : Option Int → Bg → Prop} : W (evo Γ .no σ B) Qo ↔ Qo none B := by rw [evo, W_ok]
@[simp] theorem W_sl {lo hi : MO} : W (ev Γ (.sl a lo hi) σ B) Q ↔ W (ev Γ a σ B) fun x B => W (evo Γ lo σ B) fun l B => W (evo Γ hi σ B) fun h B => Wo (sliceD x l h) fun z => Q z B := by simp only [ev, W_bind, W_ofO]
@[simp] theorem W_callb {i f : Nat} : W (ev Γ (.callb i f es) σ B) Q ↔ bagAt σ i = true ∧ W (evs Γ es σ B) fun ds B => W (Γ.callb f ds B) Q := by
  simp only [ev, bagAt]
  rcases h : σ[i]? with _ | _ | _ | _ | _ <;> simp
@[simp] theorem W_bagne {i : Nat} : W (ev Γ (.bagne i) σ B) Q ↔ bagAt σ i = true ∧ Q (.bool (!B.isEmpty)) B := by
  simp only [ev, bagAt]
  rcases h : σ[i]? with _ | _ | _ | _ | _ <;> simp
def Wp (B : Bg) (Q : Int → Bg → Prop) : Prop := ∃ x r, B = x :: r ∧ Q x r
@[simp] theorem Wp_cons {x : Int} {r : Bg} {Q : Int → Bg → Prop} : Wp (x :: r) Q ↔ Q x r := by
  unfold Wp
  constructor
  · rintro ⟨x', r', e, q⟩
    cases e; exact q
  · exact fun q => ⟨x, r, rfl, q⟩
@[simp] theorem W_bagpop {i : Nat} : W (ev Γ (.bagpop i) σ B) Q ↔ bagAt σ i = true ∧ Wp B fun x r => Q (.int x) r := by
  simp only [ev, bagAt]
  rcases h : σ[i]? with _ | _ | _ | _ | _ <;> cases B <;> simp [Wp]
  constructor
  · exact fun q => ⟨_, _, ⟨rfl, rfl⟩, q⟩
  · rintro ⟨x', r', ⟨rfl, rfl⟩, q⟩; exact q
@[simp] theorem W_join : W (ev Γ (.join a b) σ B) Q ↔ W (ev Γ a σ B) fun x B => Ws x fun x => W (ev Γ b σ B) fun y B => Wo ((seqD y).bind (joinD x)) fun z => Q z B := by
  simp only [ev, W_bind]
  refine W_iff fun x B => ?_
  cases x <;> simp [Ws]
@[simp] theorem W_split : W (ev Γ (.split a b) σ B) Q ↔ W (ev Γ a σ B) fun x B => Ws x fun x => W (ev Γ b σ B) fun y B => Ws y fun y => (¬y.length = 0 ∧ x.length + 2 ≤ sizeLine ∧ (Txt.split x y).length ≤ sizeLine) ∧ Q (.list ((Txt.split x y).map .str)) B := by
  simp only [ev, W_bind]
  refine W_iff fun x B => ?_
  cases x <;> simp [Ws]
  refine W_iff fun y B => ?_
  cases y <;> simp
  rename_i x y
  by_cases h : ¬y.length = 0 ∧ x.length + 2 ≤ sizeLine ∧ (Txt.split x y).length ≤ sizeLine
  · rw [if_pos h]; simp [h]
  · rw [if_neg h]; simp only [W_stuck, h, false_and]
@[simp] theorem W_lrep : W (ev Γ (.lrep es b) σ B) Q ↔ W (evs Γ es σ B) fun ds B => W (ev Γ b σ B) fun y B => Wi y fun k => (0 ≤ k ∧ k ≤ 1000 ∧ ds.length ≤ 1000) ∧ Q (.list (List.replicate k.toNat ds).flatten) B := by
  simp only [ev, W_bind]
  refine W_iff fun ds B => W_iff fun y B => ?_
  cases y <;> simp [Wi]
  rename_i k
  by_cases h : 0 ≤ k ∧ k ≤ 1000 ∧ ds.length ≤ 1000
  · rw [if_pos h]; simp [h]
  · rw [if_neg h]; simp; intro a b c; exact absurd ⟨a, b, c⟩ h
/-- what an error's name is asked of -/
def Wn (Γ : Tab) (x : M D) (Q : Str → Prop) : Prop := (∃ d B, x = .ok (d, B) ∧ Q Str.empty) ∨ (∃ c s, x = .err c ∧ Γ.en c = some s ∧ Q s)
@[simp] theorem W_lerr : W (ev Γ (.lerr e) σ B) Q ↔ Wn Γ (ev Γ e (noBag σ) []) fun s => Q (.str s) B := by
  simp only [ev, Wn]
  cases h : ev Γ e (noBag σ) [] with
  | stuck => simp
  | ok p => obtain ⟨d, B'⟩ := p; simp
  | err c => cases h2 : Γ.en c <;> simp [h2]
@[simp] theorem W_comp {t : Tgt} {it : MI} {c : MO} {vs : List Nat} : W (ev Γ (.comp e t it c vs) σ B) Q ↔ W (evi Γ it σ B) fun ds B => W (compL (turn Γ e t c vs σ) ds B) fun r B => Q (.list r) B := by
  simp only [ev, W_bind, W_ok]
  rfl
@[simp] theorem W_quiet {α : Type} {x : M α} {Q : α → Bg → Prop} : W (R.quiet x) Q ↔ W x Q := by
  cases x <;> simp [R.quiet]
@[simp] theorem W_turn {t : Tgt} {vs : List Nat} {d : D} {Qo : Option D → Bg → Prop} : W (turn Γ e t .no vs σ d B) Qo ↔ Wo (bindT t d (wipeE σ vs)) fun τ => W (ev Γ e τ B) fun x B => Qo (some x) B := by
  unfold turn
  cases bindT t d (wipeE σ vs) <;> simp [evc]
@[simp] theorem W_turnC {t : Tgt} {vs : List Nat} {d : D} {c : ME} {Qo : Option D → Bg → Prop} : W (turn Γ e t (.so c) vs σ d B) Qo ↔ Wo (bindT t d (wipeE σ vs)) fun τ => W (ev Γ c τ B) fun y B => Wb y fun b => if b = true then W (ev Γ e τ B) (fun x B => Qo (some x) B) else Qo none B := by
  unfold turn
  cases bindT t d (wipeE σ vs) with
  | none => simp
  | some τ =>
    simp only [W_quiet, W_bind, evc, Wo_some]
    refine W_iff fun y B => ?_
    cases y <;> simp [Wb]
    rename_i b
    cases b <;> simp
@[simp] theorem W_seq : W (evi Γ (.seq e) σ B) Qs ↔ W (ev Γ e σ B) fun x B => Wo (seqD x) fun ds => Qs ds B := by simp only [evi, W_bind, W_ofO]
@[simp] theorem W_rng1 : W (evi Γ (.rng1 e) σ B) Qs ↔ W (ev Γ e σ B) fun x B => Wi x fun j => rngOk 0 j = true ∧ Qs (rangeD 0 j.toNat) B := by
  simp only [evi, W_bind]
  refine W_iff fun x B => ?_
  cases x <;> simp [Wi]
  rename_i j
  cases rngOk 0 j <;> simp
@[simp] theorem W_rng2 : W (evi Γ (.rng2 a b) σ B) Qs ↔ W (ev Γ a σ B) fun x B => W (ev Γ b σ B) fun y B => Wi x fun i => Wi y fun j => rngOk i j = true ∧ Qs (rangeD i (j - i).toNat) B := by
  simp only [evi, W_bind]
  refine W_iff fun x B => W_iff fun y B => ?_
  cases x <;> cases y <;> simp [Wi]
  rename_i i j
  cases rngOk i j <;> simp
@[simp] theorem W_zip : W (evi Γ (.zip a b) σ B) Qs ↔ W (ev Γ a σ B) fun x B => W (ev Γ b σ B) fun y B => Wo (zipV x y) fun ds => Qs ds B := by
  simp only [evi, W_bind]
  refine W_iff fun x B => W_iff fun y B => ?_
  cases x <;> cases y <;> simp [zipV]
@[simp] theorem W_enum : W (evi Γ (.enum a) σ B) Qs ↔ W (ev Γ a σ B) fun x B => Wo (seqD x) fun xs => Qs (enumD 0 xs) B := by
  simp only [evi, W_bind]
  refine W_iff fun x B => ?_
  cases seqD x <;> simp
end
section
variable {Γ : Tab} {σ : SEnv} {B : Bg} {Q : Fl → Bg → Prop} {e c a b : ME} {s : MS} {r x y : MSs}
@[simp] theorem W_asg {t : Tgt} : W (evS Γ (.asg t e) σ B) Q ↔ W (ev Γ e σ B) fun d B => Wo (bindT t d σ) fun τ => Q (.nx τ) B := by
  simp only [evS, onE, W_bind, W_ok]
  refine W_iff fun d B => ?_
  cases bindT t d σ <;> simp
@[simp] theorem W_par {i j : Nat} : W (evS Γ (.par i j a b) σ B) Q ↔ W (ev Γ a σ B) fun x B => W (ev Γ b σ B) fun y B => Wo (some ((σ.set i (.val x)).set j (.val y))) fun τ => Q (.nx τ) B := by simp only [evS, W_bind, W_ok, Wo_some]
@[simp] theorem W_par3 {i j k : Nat} {a b c : ME} : W (evS Γ (.par3 i j k a b c) σ B) Q ↔ W (ev Γ a σ B) fun x B => W (ev Γ b σ B) fun y B => W (ev Γ c σ B) fun z B => Wo (some (((σ.set i (.val x)).set j (.val y)).set k (.val z))) fun τ => Q (.nx τ) B := by simp only [evS, W_bind, W_ok, Wo_some]
@[simp] theorem W_expr : W (evS Γ (.expr e) σ B) Q ↔ W (ev Γ e σ B) fun _ B => Q (.nx σ) B := by simp only [evS, W_bind, W_ok]
@[simp] theorem W_ret : W (evS Γ (.ret e) σ B) Q ↔ W (ev Γ e σ B) fun d B => Q (.rt d) B := by simp only [evS, W_bind, W_ok]
@[simp] theorem W_ife : W (evS Γ (.ife c x y) σ B) Q ↔ W (ev Γ c σ B) fun d B => Wb d fun t => if t = true then W (evSs Γ x σ B) Q else W (evSs Γ y σ B) Q := by
  simp only [evS, W_bind]
  refine W_iff fun d B => ?_
  cases d <;> simp [Wb]
  rename_i t
  cases t <;> simp
@[simp] theorem W_snil : W (evSs Γ .nil σ B) Q ↔ Q (.nx σ) B := by rw [evSs, W_ok]
@[simp] theorem W_scons : W (evSs Γ (.cons s r) σ B) Q ↔ W (evS Γ s σ B) fun f B => Wf f (fun σ => W (evSs Γ r σ B) Q) (fun d => Q (.rt d) B) := by
  simp only [evSs, W_bind]
  refine W_iff fun f B => ?_
  cases f <;> simp
end
end PW0
set_option linter.all false
set_option maxRecDepth 100000
set_option maxHeartbeats 1000000
/-! What is wanted behind an evaluation that raises nothing. The continuations are not looked into (congr). -/
namespace PD
open PySem PySem.Spec PyProof.Rows L2
/-- a mark that keeps simp from looking into what it stands for (its type hangs on it) -/
inductive Tg {α : Sort _} (a : α) : Type where
  | mk
/-- it gives a value, and Q holds of it -/
def W {α : Type} (x : M α) (Q : α → Bg → Prop) (_t : Tg Q := .mk) : Prop := ∃ a B, x = .ok (a, B) ∧ Q a B
def Wo {α : Type} (o : Option α) (Q : α → Prop) (_t : Tg Q := .mk) : Prop := ∃ x, o = some x ∧ Q x
def Wr {α : Type} (r : R α) (Q : α → Prop) (_t : Tg Q := .mk) : Prop := ∃ x, r = .ok x ∧ Q x
def Wb (d : D) (Q : Bool → Prop) (_t : Tg Q := .mk) : Prop := ∃ t, d = .bool t ∧ Q t
def Wi (d : D) (Q : Int → Prop) (_t : Tg Q := .mk) : Prop := ∃ t, d = .int t ∧ Q t
def Wl (d : D) (Q : List D → Prop) (_t : Tg Q := .mk) : Prop := ∃ t, d = .list t ∧ Q t
def Ws (d : D) (Q : Str → Prop) (_t : Tg Q := .mk) : Prop := ∃ t, d = .str t ∧ Q t
def Wf (f : Fl) (a : SEnv → Prop) (b : D → Prop) (_t : Tg a := .mk) (_t2 : Tg b := .mk) : Prop := match f with
  | .nx σ => a σ
  | .rt d => b d
def Wc (s : Option Sl) (Q : List D → Prop) (_t : Tg Q := .mk) : Prop := ∃ ds, s = some (.own ds) ∧ Q ds
@[simp] theorem Wo_some {α : Type} {x : α} {Q : α → Prop} : Wo (some x) Q ↔ Q x := PW0.Wo_some
@[simp] theorem Wo_none {α : Type} {Q : α → Prop} : Wo none Q ↔ False := PW0.Wo_none
@[simp] theorem Wr_ok {α : Type} {x : α} {Q : α → Prop} : Wr (.ok x) Q ↔ Q x := PW0.Wr_ok
@[simp] theorem Wr_err {α : Type} {c : Nat} {Q : α → Prop} : Wr (.err c) Q ↔ False := PW0.Wr_err
@[simp] theorem Wr_stuck {α : Type} {Q : α → Prop} : Wr .stuck Q ↔ False := PW0.Wr_stuck
@[simp] theorem Wb_bool {t : Bool} {Q : Bool → Prop} : Wb (.bool t) Q ↔ Q t := PW0.Wb_bool
@[simp] theorem Wi_int {t : Int} {Q : Int → Prop} : Wi (.int t) Q ↔ Q t := PW0.Wi_int
@[simp] theorem Wl_list {t : List D} {Q : List D → Prop} : Wl (.list t) Q ↔ Q t := PW0.Wl_list
@[simp] theorem Ws_str {t : Str} {Q : Str → Prop} : Ws (.str t) Q ↔ Q t := PW0.Ws_str
@[simp] theorem Wf_nx {σ : SEnv} {a : SEnv → Prop} {b : D → Prop} : Wf (.nx σ) a b ↔ a σ := Iff.rfl
@[simp] theorem Wf_rt {d : D} {a : SEnv → Prop} {b : D → Prop} : Wf (.rt d) a b ↔ b d := Iff.rfl
@[simp] theorem Wc_own {ds : List D} {Q : List D → Prop} : Wc (some (.own ds)) Q ↔ Q ds := PW0.Wc_own
section
variable {α β : Type} {Γ : Tab} {σ : SEnv} {B : Bg} {Q : D → Bg → Prop} {Qs : List D → Bg → Prop} {e a b c : ME} {es : MEs}
@[simp] theorem W_ok {x : α} {B : Bg} {Q : α → Bg → Prop} : W (.ok (x, B)) Q ↔ Q x B := PW0.W_ok
@[simp] theorem W_stuck {Q : α → Bg → Prop} : W (.stuck : M α) Q ↔ False := PW0.W_stuck
@[simp] theorem W_err {n : Nat} {Q : α → Bg → Prop} : W (.err n : M α) Q ↔ False := PW0.W_err
@[simp] theorem W_bind {x : M α} {f : α → Bg → M β} {Q : β → Bg → Prop} : W (x.bind f) Q ↔ W x fun a B => W (f a B) Q := PW0.W_bind
@[simp] theorem W_ofO {o : Option α} {Q : α → Bg → Prop} : W (ofO B o) Q ↔ Wo o fun x => Q x B := PW0.W_ofO
@[simp] theorem W_optB {o : Option Bool} : W (optB B o) Q ↔ Wo o fun x => Q (.bool x) B := PW0.W_optB
theorem W_iff {x : M α} {P Q : α → Bg → Prop} (h : ∀ a B, P a B ↔ Q a B) : W x P ↔ W x Q := PW0.W_iff h
theorem W_mono {x : M α} {P Q : α → Bg → Prop} (w : W x P) (h : ∀ a B, P a B → Q a B) : W x Q := PW0.W_mono w h
@[simp] theorem W_boolM {x : M D} {f : Bool → Bg → M β} {Q : β → Bg → Prop} : W (boolM x f) Q ↔ W x fun d B => Wb d fun t => W (f t B) Q := PW0.W_boolM
@[simp] theorem W_var {i : Nat} : W (ev Γ (.var i) σ B) Q ↔ Wo (getV σ i) fun d => Q d B := PW0.W_var
@[simp] theorem W_con {d : D} : W (ev Γ (.con d) σ B) Q ↔ Q d B := PW0.W_con
@[simp] theorem W_gcon {g : Nat} : W (ev Γ (.gcon g) σ B) Q ↔ Q (Γ.gc g) B := PW0.W_gcon
@[simp] theorem W_tup : W (ev Γ (.tup es) σ B) Q ↔ W (evs Γ es σ B) fun ds B => Q (.tuple ds) B := PW0.W_tup
@[simp] theorem W_lst : W (ev Γ (.lst es) σ B) Q ↔ W (evs Γ es σ B) fun ds B => Q (.list ds) B := PW0.W_lst
@[simp] theorem W_bin {o : BinO} : W (ev Γ (.bin o a b) σ B) Q ↔ W (ev Γ a σ B) fun x B => W (ev Γ b σ B) fun y B => Wo (binD o x y) fun z => Q z B := PW0.W_bin
@[simp] theorem W_nt : W (ev Γ (.nt a) σ B) Q ↔ W (ev Γ a σ B) fun x B => Wb x fun t => Q (.bool (!t)) B := PW0.W_nt
@[simp] theorem W_cmp {o : CmpO} : W (ev Γ (.cmp o a b) σ B) Q ↔ W (ev Γ a σ B) fun x B => W (ev Γ b σ B) fun y B => Wo (cmpD o x y) fun t => Q (.bool t) B := PW0.W_cmp
@[simp] theorem W_chain {o o' : CmpO} : W (ev Γ (.chain o o' a b c) σ B) Q ↔ W (ev Γ a σ B) fun x B => W (ev Γ b σ B) fun y B => Wo (cmpD o x y) fun t => if t = true then W (ev Γ c σ B) (fun z B => Wo (cmpD o' y z) fun u => Q (.bool u) B) else Q (.bool false) B := PW0.W_chain
@[simp] theorem W_and : W (ev Γ (.andv a b) σ B) Q ↔ W (ev Γ a σ B) fun x B => Wb x fun t => if t = true then W (ev Γ b σ B) (fun y B => Wb y fun u => Q (.bool u) B) else Q (.bool false) B := PW0.W_and
@[simp] theorem W_or : W (ev Γ (.orv a b) σ B) Q ↔ W (ev Γ a σ B) fun x B => Wb x fun t => if t = true then Q (.bool true) B else W (ev Γ b σ B) (fun y B => Wb y fun u => Q (.bool u) B) := PW0.W_or
@[simp] theorem W_ite : W (ev Γ (.ite c a b) σ B) Q ↔ W (ev Γ c σ B) fun x B => Wb x fun t => if t = true then W (ev Γ a σ B) Q else W (ev Γ b σ B) Q := PW0.W_ite
@[simp] theorem W_ix : W (ev Γ (.ix a b) σ B) Q ↔ W (ev Γ a σ B) fun x B => W (ev Γ b σ B) fun y B => Wo (itemD x y) fun z => Q z B := PW0.W_ix
@[simp] theorem W_call {f : Nat} : W (ev Γ (.call f es) σ B) Q ↔ W (evs Γ es σ B) fun ds B => Wr (Γ.call f ds) fun d => Q d B := PW0.W_call
@[simp] theorem W_blt {o : BltO} : W (ev Γ (.blt o a) σ B) Q ↔ W (ev Γ a σ B) fun x B => Wo (bltD o x) fun z => Q z B := PW0.W_blt
@[simp] theorem W_blt2 {o : Blt2} : W (ev Γ (.blt2 o a b) σ B) Q ↔ W (ev Γ a σ B) fun x B => W (ev Γ b σ B) fun y B => Wo (blt2D o x y) fun z => Q z B := PW0.W_blt2
@[simp] theorem W_isi {t : Ty} : W (ev Γ (.isi a t) σ B) Q ↔ W (ev Γ a σ B) fun x B => Wo (isiD t x) fun u => Q (.bool u) B := PW0.W_isi
@[simp] theorem W_nil : W (evs Γ .nil σ B) Qs ↔ Qs [] B := PW0.W_nil
@[simp] theorem W_cons : W (evs Γ (.cons e es) σ B) Qs ↔ W (ev Γ e σ B) fun x B => W (evs Γ es σ B) fun xs B => Qs (x :: xs) B := PW0.W_cons
@[simp] theorem W_so {Qo : Option Int → Bg → Prop} : W (evo Γ (.so e) σ B) Qo ↔ W (ev Γ e σ B) fun x B => Wi x fun i => Qo (some i) B := PW0.W_so
@[simp] theorem W_no {Qo : Option Int → Bg → Prop} : W (evo Γ .no σ B) Qo ↔ Qo none B := PW0.W_no
@[simp] theorem W_sl {lo hi : MO} : W (ev Γ (.sl a lo hi) σ B) Q ↔ W (ev Γ a σ B) fun x B => W (evo Γ lo σ B) fun l B => W (evo Γ hi σ B) fun h B => Wo (sliceD x l h) fun z => Q z B := PW0.W_sl
@[simp] theorem W_callb {i f : Nat} : W (ev Γ (.callb i f es) σ B) Q ↔ bagAt σ i = true ∧ W (evs Γ es σ B) fun ds B => W (Γ.callb f ds B) Q := PW0.W_callb
@[simp] theorem W_bagne {i : Nat} : W (ev Γ (.bagne i) σ B) Q ↔ bagAt σ i = true ∧ Q (.bool (!B.isEmpty)) B := PW0.W_bagne
def Wp (B : Bg) (Q : Int → Bg → Prop) (_t : Tg Q := .mk) : Prop := ∃ x r, B = x :: r ∧ Q x r
@[simp] theorem Wp_cons {x : Int} {r : Bg} {Q : Int → Bg → Prop} : Wp (x :: r) Q ↔ Q x r := PW0.Wp_cons
@[simp] theorem W_bagpop {i : Nat} : W (ev Γ (.bagpop i) σ B) Q ↔ bagAt σ i = true ∧ Wp B fun x r => Q (.int x) r := PW0.W_bagpop
@[simp] theorem W_join : W (ev Γ (.join a b) σ B) Q ↔ W (ev Γ a σ B) fun x B => Ws x fun x => W (ev Γ b σ B) fun y B => Wo ((seqD y).bind (joinD x)) fun z => Q z B := PW0.W_join
@[simp] theorem W_split : W (ev Γ (.split a b) σ B) Q ↔ W (ev Γ a σ B) fun x B => Ws x fun x => W (ev Γ b σ B) fun y B => Ws y fun y => (¬y.length = 0 ∧ x.length + 2 ≤ sizeLine ∧ (Txt.split x y).length ≤ sizeLine) ∧ Q (.list ((Txt.split x y).map .str)) B := PW0.W_split
@[simp] theorem W_lrep : W (ev Γ (.lrep es b) σ B) Q ↔ W (evs Γ es σ B) fun ds B => W (ev Γ b σ B) fun y B => Wi y fun k => (0 ≤ k ∧ k ≤ 1000 ∧ ds.length ≤ 1000) ∧ Q (.list (List.replicate k.toNat ds).flatten) B := PW0.W_lrep
/-- what an error's name is asked of -/
def Wn (Γ : Tab) (x : M D) (Q : Str → Prop) (_t : Tg Q := .mk) : Prop := (∃ d B, x = .ok (d, B) ∧ Q Str.empty) ∨ (∃ c s, x = .err c ∧ Γ.en c = some s ∧ Q s)
@[simp] theorem W_lerr : W (ev Γ (.lerr e) σ B) Q ↔ Wn Γ (ev Γ e (noBag σ) []) fun s => Q (.str s) B := PW0.W_lerr
@[simp] theorem W_comp {t : Tgt} {it : MI} {c : MO} {vs : List Nat} : W (ev Γ (.comp e t it c vs) σ B) Q ↔ W (evi Γ it σ B) fun ds B => W (compL (turn Γ e t c vs σ) ds B) fun r B => Q (.list r) B := PW0.W_comp
@[simp] theorem W_quiet {α : Type} {x : M α} {Q : α → Bg → Prop} : W (R.quiet x) Q ↔ W x Q := PW0.W_quiet
@[simp] theorem W_turn {t : Tgt} {vs : List Nat} {d : D} {Qo : Option D → Bg → Prop} : W (turn Γ e t .no vs σ d B) Qo ↔ Wo (bindT t d (wipeE σ vs)) fun τ => W (ev Γ e τ B) fun x B => Qo (some x) B := PW0.W_turn
@[simp] theorem W_turnC {t : Tgt} {vs : List Nat} {d : D} {c : ME} {Qo : Option D → Bg → Prop} : W (turn Γ e t (.so c) vs σ d B) Qo ↔ Wo (bindT t d (wipeE σ vs)) fun τ => W (ev Γ c τ B) fun y B => Wb y fun b => if b = true then W (ev Γ e τ B) (fun x B => Qo (some x) B) else Qo none B := PW0.W_turnC
@[simp] theorem W_seq : W (evi Γ (.seq e) σ B) Qs ↔ W (ev Γ e σ B) fun x B => Wo (seqD x) fun ds => Qs ds B := PW0.W_seq
@[simp] theorem W_rng1 : W (evi Γ (.rng1 e) σ B) Qs ↔ W (ev Γ e σ B) fun x B => Wi x fun j => rngOk 0 j = true ∧ Qs (rangeD 0 j.toNat) B := PW0.W_rng1
@[simp] theorem W_rng2 : W (evi Γ (.rng2 a b) σ B) Qs ↔ W (ev Γ a σ B) fun x B => W (ev Γ b σ B) fun y B => Wi x fun i => Wi y fun j => rngOk i j = true ∧ Qs (rangeD i (j - i).toNat) B := PW0.W_rng2
@[simp] theorem W_zip : W (evi Γ (.zip a b) σ B) Qs ↔ W (ev Γ a σ B) fun x B => W (ev Γ b σ B) fun y B => Wo (zipV x y) fun ds => Qs ds B := PW0.W_zip
@[simp] theorem W_enum : W (evi Γ (.enum a) σ B) Qs ↔ W (ev Γ a σ B) fun x B => Wo (seqD x) fun xs => Qs (enumD 0 xs) B := PW0.W_enum
end
section
variable {Γ : Tab} {σ : SEnv} {B : Bg} {Q : Fl → Bg → Prop} {e c a b : ME} {s : MS} {r x y : MSs}
@[simp] theorem W_asg {t : Tgt} : W (evS Γ (.asg t e) σ B) Q ↔ W (ev Γ e σ B) fun d B => Wo (bindT t d σ) fun τ => Q (.nx τ) B := PW0.W_asg
@[simp] theorem W_par {i j : Nat} : W (evS Γ (.par i j a b) σ B) Q ↔ W (ev Γ a σ B) fun x B => W (ev Γ b σ B) fun y B => Wo (some ((σ.set i (.val x)).set j (.val y))) fun τ => Q (.nx τ) B := PW0.W_par
@[simp] theorem W_par3 {i j k : Nat} {a b c : ME} : W (evS Γ (.par3 i j k a b c) σ B) Q ↔ W (ev Γ a σ B) fun x B => W (ev Γ b σ B) fun y B => W (ev Γ c σ B) fun z B => Wo (some (((σ.set i (.val x)).set j (.val y)).set k (.val z))) fun τ => Q (.nx τ) B := PW0.W_par3
@[simp] theorem W_expr : W (evS Γ (.expr e) σ B) Q ↔ W (ev Γ e σ B) fun _ B => Q (.nx σ) B := PW0.W_expr
@[simp] theorem W_ret : W (evS Γ (.ret e) σ B) Q ↔ W (ev Γ e σ B) fun d B => Q (.rt d) B := PW0.W_ret
@[simp] theorem W_ife : W (evS Γ (.ife c x y) σ B) Q ↔ W (ev Γ c σ B) fun d B => Wb d fun t => if t = true then W (evSs Γ x σ B) Q else W (evSs Γ y σ B) Q := PW0.W_ife
@[simp] theorem W_snil : W (evSs Γ .nil σ B) Q ↔ Q (.nx σ) B := PW0.W_snil
@[simp] theorem W_scons : W (evSs Γ (.cons s r) σ B) Q ↔ W (evS Γ s σ B) fun f B => Wf f (fun σ => W (evSs Γ r σ B) Q) (fun d => Q (.rt d) B) := PW0.W_scons
end
end PD
set_option linter.all false
set_option maxRecDepth 100000
set_option maxHeartbeats 1000000
/-! Small equations of the evaluator, loops, for the plain laws. -/
namespace PD
open PySem PySem.Spec PyProof.Rows L2
section
variable {d e x : D} {r : SEnv} {s : Sl} {ds xs ys : List D} {i j : Int} {n : Nat} {σ : SEnv} {B : Bg}
@[simp] theorem getV_val : getV (.val d :: r) 0 = some d := rfl
@[simp] theorem getV_own : getV (.own ds :: r) 0 = some (.list ds) := rfl
@[simp] theorem getV_s : getV (s :: r) (n + 1) = getV r n := by simp [getV]
@[simp] theorem bindT_nm : bindT (.nm n) d σ = some (σ.set n (.val d)) := by rw [bindT]
@[simp] theorem bindT_tp {ts : List Tgt} : bindT (.tp ts) (.tuple ds) σ = bindTs ts ds σ := by rw [bindT]
@[simp] theorem bindTs_nil : bindTs [] [] σ = some σ := by rw [bindTs]
@[simp] theorem bindTs_cons {t : Tgt} {ts : List Tgt} : bindTs (t :: ts) (d :: ds) σ = (bindT t d σ).bind (bindTs ts ds) := by
  rw [bindTs]; cases bindT t d σ <;> rfl
@[simp] theorem wipe_nil : wipeE σ [] = σ := by rw [wipeE]
@[simp] theorem wipe_cons {v : Nat} {vs : List Nat} : wipeE σ (v :: vs) = (wipeE σ vs).set v .emp := by rw [wipeE]
@[simp] theorem bin_add : binD .add (.int i) (.int j) = some (.int (i + j)) := rfl
@[simp] theorem bin_sub : binD .sub (.int i) (.int j) = some (.int (i - j)) := rfl
@[simp] theorem bin_mul : binD .mul (.int i) (.int j) = if smallLog i j then some (.int (i * j)) else none := rfl
@[simp] theorem bin_fdiv : binD .fdiv (.int i) (.int j) = if 0 < j ∧ j.natAbs.log2 < 9000 then some (.int (i / j)) else none := rfl
@[simp] theorem bin_mod : binD .mod (.int i) (.int j) = if 0 < j then some (.int (i % j)) else none := rfl
@[simp] theorem bin_pow : binD .pow (.int i) (.int j) = if 0 ≤ j ∧ j ≤ 1000000 ∧ i.natAbs < 2 ^ 64 then some (.int (i ^ j.toNat)) else none := rfl
@[simp] theorem bin_addT : binD .add (.tuple xs) (.tuple ys) = if xs.length + ys.length ≤ sizeLine then some (.tuple (xs ++ ys)) else none := rfl
@[simp] theorem bin_addL : binD .add (.list xs) (.list ys) = if xs.length + ys.length ≤ sizeLine then some (.list (xs ++ ys)) else none := rfl
@[simp] theorem blt_lenT : bltD .len (.tuple xs) = some (.int xs.length) := rfl
@[simp] theorem blt_lenL : bltD .len (.list xs) = some (.int xs.length) := rfl
@[simp] theorem blt_abs : bltD .abs (.int i) = some (.int (if i < 0 then -i else i)) := rfl
@[simp] theorem blt_neg : bltD .neg (.int i) = some (.int (-i)) := rfl
@[simp] theorem blt_int : bltD .int (.int i) = some (.int i) := rfl
@[simp] theorem blt_intB {b : Bool} : bltD .int (.bool b) = some (.int (if b then 1 else 0)) := rfl
@[simp] theorem blt_tupT : bltD .tuple (.tuple xs) = some (.tuple xs) := rfl
@[simp] theorem blt_tupL : bltD .tuple (.list xs) = some (.tuple xs) := rfl
@[simp] theorem blt_lstT : bltD .list (.tuple xs) = some (.list xs) := rfl
@[simp] theorem blt_lstL : bltD .list (.list xs) = some (.list xs) := rfl
theorem blt_all : bltD .all (.list xs) = (bools? xs).map fun bs => .bool (bs.all id) := rfl
theorem blt_any : bltD .any (.list xs) = (bools? xs).map fun bs => .bool (bs.any id) := rfl
theorem blt_sum : bltD .sum (.list xs) = (ints? xs).map fun ns => .int ns.sum := rfl
@[simp] theorem blt_revT : bltD .rev (.tuple xs) = some (.tuple xs.reverse) := rfl
@[simp] theorem blt_revL : bltD .rev (.list xs) = some (.list xs.reverse) := rfl
@[simp] theorem c_lt : cmpD .lt (.int i) (.int j) = some (decide (i < j)) := rfl
@[simp] theorem c_le : cmpD .le (.int i) (.int j) = some (decide (i ≤ j)) := rfl
@[simp] theorem c_gt : cmpD .gt (.int i) (.int j) = some (decide (j < i)) := rfl
@[simp] theorem c_ge : cmpD .ge (.int i) (.int j) = some (decide (j ≤ i)) := rfl
@[simp] theorem c_eq : cmpD .eq d e = eqD d e := rfl
@[simp] theorem c_ne : cmpD .ne d e = (eqD d e).map (!·) := rfl
@[simp] theorem c_in : cmpD .isin d e = inD d e := rfl
@[simp] theorem c_notin : cmpD .notin d e = (inD d e).map (!·) := rfl
@[simp] theorem c_is : cmpD .is d e = isD d e := rfl
@[simp] theorem c_isnot : cmpD .isnot d e = (isD d e).map (!·) := rfl
@[simp] theorem is_bool {a b : Bool} : isD (.bool a) (.bool b) = some (decide (a = b)) := rfl
@[simp] theorem is_none : isD d .none = some (isNn d) := by cases d <;> rfl
@[simp] theorem isNn_none : isNn .none = true := rfl
@[simp] theorem isNn_int : isNn (.int i) = false := rfl
@[simp] theorem isNn_tup : isNn (.tuple xs) = false := rfl
@[simp] theorem isNn_str {x : Str} : isNn (.str x) = false := rfl
@[simp] theorem isNn_bool {b : Bool} : isNn (.bool b) = false := rfl
@[simp] theorem isNn_list : isNn (.list xs) = false := rfl
@[simp] theorem seqD_tup : seqD (.tuple xs) = some xs := rfl
@[simp] theorem seqD_lst : seqD (.list xs) = some xs := rfl
@[simp] theorem isi_ti : isiD .tuple (.int i) = some false := rfl
@[simp] theorem isi_tt : isiD .tuple (.tuple xs) = some true := rfl
@[simp] theorem isi_tl : isiD .tuple (.list xs) = some false := rfl
@[simp] theorem isi_ts {x : Str} : isiD .tuple (.str x) = some false := rfl
@[simp] theorem isi_tb {b : Bool} : isiD .tuple (.bool b) = some false := rfl
@[simp] theorem isi_tn : isiD .tuple .none = some false := rfl
@[simp] theorem isi_ii : isiD .int (.int i) = some true := rfl
@[simp] theorem isi_it : isiD .int (.tuple xs) = some false := rfl
@[simp] theorem isi_il : isiD .int (.list xs) = some false := rfl
@[simp] theorem isi_is {x : Str} : isiD .int (.str x) = some false := rfl
@[simp] theorem isi_ib {b : Bool} : isiD .int (.bool b) = some true := rfl
@[simp] theorem isi_in : isiD .int .none = some false := rfl
@[simp] theorem isi_bi : isiD .bool (.int i) = some false := rfl
@[simp] theorem isi_bt : isiD .bool (.tuple xs) = some false := rfl
@[simp] theorem isi_bl : isiD .bool (.list xs) = some false := rfl
@[simp] theorem isi_bs {x : Str} : isiD .bool (.str x) = some false := rfl
@[simp] theorem isi_bb {b : Bool} : isiD .bool (.bool b) = some true := rfl
@[simp] theorem isi_bn : isiD .bool .none = some false := rfl
@[simp] theorem isi_si : isiD .str (.int i) = some false := rfl
@[simp] theorem isi_st : isiD .str (.tuple xs) = some false := rfl
@[simp] theorem isi_sl : isiD .str (.list xs) = some false := rfl
@[simp] theorem isi_ss {x : Str} : isiD .str (.str x) = some true := rfl
@[simp] theorem isi_sb {b : Bool} : isiD .str (.bool b) = some false := rfl
@[simp] theorem isi_sn : isiD .str .none = some false := rfl
@[simp] theorem isi_li : isiD .list (.int i) = some false := rfl
@[simp] theorem isi_lt : isiD .list (.tuple xs) = some false := rfl
@[simp] theorem isi_ll : isiD .list (.list xs) = some true := rfl
@[simp] theorem isi_ls {x : Str} : isiD .list (.str x) = some false := rfl
@[simp] theorem isi_lb {b : Bool} : isiD .list (.bool b) = some false := rfl
@[simp] theorem isi_ln : isiD .list .none = some false := rfl
theorem ixD_nat {n k : Nat} (h : k < n) : ixD n (k : Int) = some k := by
  unfold ixD
  rw [if_pos (by omega), if_pos (by omega)]; simp
theorem item_tn {k : Nat} (h : xs[k]? = some d) : itemD (.tuple xs) (.int k) = some d := by
  have := (List.getElem?_eq_some_iff.mp h).1
  simp [itemD, ixD_nat this, h]
theorem item_ln {k : Nat} (h : xs[k]? = some d) : itemD (.list xs) (.int k) = some d := by
  have := (List.getElem?_eq_some_iff.mp h).1
  simp [itemD, ixD_nat this, h]
@[simp] theorem item_t0 : itemD (.tuple (d :: ds)) (.int 0) = some d := item_tn (k := 0) rfl
@[simp] theorem item_t1 : itemD (.tuple (e :: d :: ds)) (.int 1) = some d := item_tn (k := 1) rfl
@[simp] theorem item_t2 {e' : D} : itemD (.tuple (e' :: e :: d :: ds)) (.int 2) = some d := item_tn (k := 2) rfl
@[simp] theorem item_t3 {e' e2 : D} : itemD (.tuple (e2 :: e' :: e :: d :: ds)) (.int 3) = some d := item_tn (k := 3) rfl
@[simp] theorem item_t4 {e' e2 e3 : D} : itemD (.tuple (e3 :: e2 :: e' :: e :: d :: ds)) (.int 4) = some d := item_tn (k := 4) rfl
@[simp] theorem item_l0 : itemD (.list (d :: ds)) (.int 0) = some d := item_ln (k := 0) rfl
@[simp] theorem item_l1 : itemD (.list (e :: d :: ds)) (.int 1) = some d := item_ln (k := 1) rfl
/-! ### equality -/
@[simp] theorem shaped_int : SeqAt.shaped (.int i) = true := rfl
@[simp] theorem shaped_bool {b : Bool} : SeqAt.shaped (.bool b) = true := rfl
@[simp] theorem shaped_none : SeqAt.shaped .none = true := rfl
theorem eqD_of (h1 : SeqAt.shaped d = true) (h2 : SeqAt.shaped e = true) : eqD d e = some (PyData.eqv d e) := by unfold eqD; rw [h1, h2]; rfl
@[simp] theorem eq_int : eqD (.int i) (.int j) = some (decide (i = j)) := eqD_of rfl rfl
@[simp] theorem eq_bool {a b : Bool} : eqD (.bool a) (.bool b) = some (decide (a = b)) := (eqD_of rfl rfl).trans (by cases a <;> cases b <;> rfl)
theorem shaped_str {x : Str} : SeqAt.shaped (.str x) = PyData.strOk x := by
  unfold SeqAt.shaped
  simp [PyData.canLay0, PyData.depth]
theorem eq_str {x y : Str} (h1 : PyData.strOk x = true) (h2 : PyData.strOk y = true) : eqD (.str x) (.str y) = some (x == y) := (eqD_of (by rw [shaped_str]; exact h1) (by rw [shaped_str]; exact h2)).trans (by simp only [PyData.eqv])
theorem shaped_strs : ∀ {xs : List Str}, (∀ x ∈ xs, PyData.strOk x = true) → SeqAt.shaped (.tuple (xs.map .str)) = true ∧ SeqAt.shaped (.list (xs.map .str)) = true := by
  intro xs h
  have h1 : PyData.canLayAll0 (xs.map .str) = true := by
    induction xs with
    | nil => rfl
    | cons x xs ih =>
      simp only [List.map_cons, PyData.canLayAll0, PyData.canLay0, h x (by simp), ih (fun y hy => h y (by simp [hy])), Bool.and_self]
  have h2 : PyData.depthAll (xs.map .str) ≤ 3 := by
    induction xs with
    | nil => simp [PyData.depthAll]
    | cons x xs ih =>
      simp only [List.map_cons, PyData.depthAll, PyData.depth]
      have := ih (fun y hy => h y (by simp [hy])) (by simp [PyData.canLayAll0] at h1; exact h1.2)
      omega
  constructor <;> (rw [SeqAt.shaped, PyData.canLay0, h1, Bool.true_and, decide_eq_true_eq, PyData.depth]; omega)
theorem any_strs {x : Str} : ∀ {xs : List Str}, ((xs.map PyData.str).any fun y => PyData.eqv y (.str x)) = xs.any (· == x)
  | [] => rfl
  | y :: ys => by simp only [List.map_cons, List.any_cons, any_strs (xs := ys), PyData.eqv]
theorem in_strsT {x : Str} {xs : List Str} (h : PyData.strOk x = true) (hs : ∀ x ∈ xs, PyData.strOk x = true) : inD (.str x) (.tuple (xs.map .str)) = some (xs.any (· == x)) := by
  simp only [inD, shaped_str, h, (shaped_strs hs).1, Bool.and_self, if_true, any_strs]
theorem in_strsL {x : Str} {xs : List Str} (h : PyData.strOk x = true) (hs : ∀ x ∈ xs, PyData.strOk x = true) : inD (.str x) (.list (xs.map .str)) = some (xs.any (· == x)) := by
  simp only [inD, shaped_str, h, (shaped_strs hs).2, Bool.and_self, if_true, any_strs]
end
theorem bools_map {α : Type} {p : α → Bool} : ∀ {ds : List α}, bools? (ds.map fun d => .bool (p d)) = some (ds.map p)
  | [] => rfl
  | d :: ds => by simp only [List.map_cons, bools?, bools_map (ds := ds), Option.map_some]
theorem ints_map : ∀ {ns : List Int}, ints? (ns.map .int) = some ns
  | [] => rfl
  | d :: ds => by simp only [List.map_cons, ints?, ints_map (ns := ds), Option.map_some]
@[simp] theorem all_map {α : Type} {p : α → Bool} {ds : List α} : bltD .all (.list (ds.map fun d => .bool (p d))) = some (.bool (ds.all p)) := by
  rw [blt_all, bools_map]
  simp only [Option.map_some, List.all_map]
  rfl
@[simp] theorem any_map {α : Type} {p : α → Bool} {ds : List α} : bltD .any (.list (ds.map fun d => .bool (p d))) = some (.bool (ds.any p)) := by
  rw [blt_any, bools_map]
  simp only [Option.map_some, List.any_map]
  rfl
/-! ### turns -/
theorem W_compL {f : D → Bg → M (Option D)} {g : D → D} {B : Bg} {Q : List D → Bg → Prop} : ∀ {ds : List D}, (∀ d ∈ ds, W (f d B) fun o B' => o = some (g d) ∧ B' = B) → Q (ds.map g) B → W (compL f ds B) Q
  | [], _, q => ⟨_, _, rfl, q⟩
  | d :: ds, h, q => by
    obtain ⟨o, B', e, rfl, rfl⟩ := h d List.mem_cons_self
    simp only [compL, W_bind, e, W_ok]
    exact W_mono (W_compL (Q := fun r B2 => Q (g d :: r) B2) (fun x hx => h x (List.mem_cons_of_mem _ hx)) q) fun a B h => W_ok.mpr h
/-- a comprehension with a test -/
theorem W_compO {f : D → Bg → M (Option D)} {g : D → Option D} {B : Bg} {Q : List D → Bg → Prop} : ∀ {ds : List D}, (∀ d ∈ ds, W (f d B) fun o B' => o = g d ∧ B' = B) → Q (ds.filterMap g) B → W (compL f ds B) Q
  | [], _, q => ⟨_, _, rfl, q⟩
  | d :: ds, h, q => by
    obtain ⟨o, B', e, rfl, rfl⟩ := h d List.mem_cons_self
    simp only [compL, W_bind, e, W_ok]
    cases hg : g d with
    | none => exact W_mono (W_compO (g := g) (Q := Q) (fun x hx => h x (List.mem_cons_of_mem _ hx)) (by simpa [hg] using q)) fun a B h => W_ok.mpr h
    | some y => exact W_mono (W_compO (g := g) (Q := fun r B2 => Q (y :: r) B2) (fun x hx => h x (List.mem_cons_of_mem _ hx)) (by simpa [hg] using q)) fun a B h => W_ok.mpr h
/-- a comprehension that draws -/
theorem W_compI {f : D → Bg → M (Option D)} {Q : List D → Bg → Prop} (I : List D → List D → Bg → Prop) (hs : ∀ d r acc B, I (d :: r) acc B → W (f d B) fun o B' => I r (acc ++ o.toList) B') (hq : ∀ acc B, I [] acc B → Q acc B) :
    ∀ (ds acc : List D) (B : Bg), I ds acc B → W (compL f ds B) fun r B' => Q (acc ++ r) B'
  | [], acc, B, h => ⟨_, _, rfl, by simpa using hq acc B h⟩
  | d :: ds, acc, B, h => by
    obtain ⟨o, B', e, hi⟩ := hs d ds acc B h
    simp only [compL, W_bind, e, W_ok]
    obtain ⟨r, B2, e2, q⟩ := W_compI I hs hq ds _ B' hi
    refine ⟨r, B2, e2, ?_⟩
    show W _ _
    cases o with
    | none => simpa using q
    | some x => simpa using q
theorem W_compM {α : Type} {f : D → Bg → M (Option D)} {en : α → D} {g : α → D} {B : Bg} {Q : List D → Bg → Prop} {xs : List α} (h : ∀ x ∈ xs, W (f (en x) B) fun o B' => o = some (g x) ∧ B' = B) (q : Q (xs.map g) B) : W (compL f (xs.map en) B) Q := by
  induction xs generalizing Q with
  | nil => exact ⟨_, _, rfl, q⟩
  | cons x xs ih =>
    obtain ⟨o, B', e, rfl, rfl⟩ := h x List.mem_cons_self
    simp only [List.map_cons, compL, W_bind, e, W_ok]
    exact W_mono (ih (Q := fun r B2 => Q (g x :: r) B2) (fun y hy => h y (List.mem_cons_of_mem _ hy)) q) fun a B h => W_ok.mpr h
theorem W_compMO {α : Type} {f : D → Bg → M (Option D)} {en : α → D} {g : α → Option D} {B : Bg} {Q : List D → Bg → Prop} {xs : List α} (h : ∀ x ∈ xs, W (f (en x) B) fun o B' => o = g x ∧ B' = B) (q : Q (xs.filterMap g) B) : W (compL f (xs.map en) B) Q := by
  induction xs generalizing Q with
  | nil => exact ⟨_, _, rfl, q⟩
  | cons x xs ih =>
    obtain ⟨o, B', e, rfl, rfl⟩ := h x List.mem_cons_self
    simp only [List.map_cons, compL, W_bind, e, W_ok]
    cases hg : g x with
    | none => exact W_mono (ih (Q := Q) (fun y hy => h y (List.mem_cons_of_mem _ hy)) (by simpa [hg] using q)) fun a B h => W_ok.mpr h
    | some y => exact W_mono (ih (Q := fun r B2 => Q (y :: r) B2) (fun y hy => h y (List.mem_cons_of_mem _ hy)) (by simpa [hg] using q)) fun a B h => W_ok.mpr h
theorem rangeD_eq (lo : Int) : ∀ n, rangeD lo n = (List.range n).map fun k => .int (lo + (k : Nat))
  | 0 => rfl
  | n + 1 => by
    rw [rangeD, rangeD_eq (lo + 1) n, List.range_succ_eq_map]
    simp
    intro a ha
    omega
@[simp] theorem range0 (n : Nat) : rangeD 0 n = (List.range n).map fun k => .int (k : Nat) := by
  rw [rangeD_eq]; simp
theorem enumD_eq : ∀ (n : Nat) (xs : List D), enumD n xs = (xs.zipIdx n).map fun p => .tuple [.int p.2, p.1]
  | n, [] => rfl
  | n, x :: xs => by rw [enumD, enumD_eq (n + 1) xs]; rfl
theorem rngOk_n {n : Nat} (h : n < 1000) : rngOk 0 n = true := by
  unfold rngOk
  simp
  omega
section
variable {Γ : Tab} {σ : SEnv} {B : Bg} {Q : Fl → Bg → Prop}
/-- a turn of a for -/
def fturn (Γ : Tab) (t : Tgt) (body : MSs) (d : D) (σ : SEnv) (B : Bg) : M Fl := match bindT t d σ with
  | some τ => evSs Γ body τ B
  | none => .stuck
@[simp] theorem W_forr {t : Tgt} {it : MI} {body : MSs} : W (evS Γ (.forr t it body) σ B) Q ↔ W (evi Γ it σ B) fun ds B => W (forL (fturn Γ t body) ds σ B) Q := by
  simp only [evS, W_bind]
  rfl
@[simp] theorem W_fturn {t : Tgt} {body : MSs} {d : D} : W (fturn Γ t body d σ B) Q ↔ Wo (bindT t d σ) fun τ => W (evSs Γ body τ B) Q := by
  unfold fturn
  cases bindT t d σ <;> simp
theorem W_forL {f : D → SEnv → Bg → M Fl} (I : List D → SEnv → Bg → Prop) (hs : ∀ d r σ B, I (d :: r) σ B → W (f d σ B) fun x B => Wf x (fun σ => I r σ B) (fun d => Q (.rt d) B)) (hq : ∀ σ B, I [] σ B → Q (.nx σ) B) :
    ∀ (ds : List D) (σ : SEnv) (B : Bg), I ds σ B → W (forL f ds σ B) Q
  | [], σ, B, h => ⟨_, _, rfl, hq σ B h⟩
  | d :: ds, σ, B, h => by
    obtain ⟨x, B', e, hi⟩ := hs d ds σ B h
    simp only [forL, W_bind, e, W_ok]
    cases x with
    | nx σ' => exact W_forL I hs hq ds σ' B' hi
    | rt d => exact W_ok.mpr hi
@[simp] theorem W_whil {c : ME} {body : MSs} : W (evS Γ (.whil c body) σ B) Q ↔ W (whileL (fun σ B => ev Γ c σ B) (fun σ B => evSs Γ body σ B) turns σ B) Q := by simp only [evS]
theorem W_whileL {c : SEnv → Bg → M D} {f : SEnv → Bg → M Fl} (I : Nat → SEnv → Bg → Prop)
    (hs : ∀ m σ B, I m σ B → W (c σ B) fun d B => Wb d fun t => if t = true then W (f σ B) (fun x B => Wf x (fun σ => ∃ k, k < m ∧ I k σ B) (fun d => Q (.rt d) B)) else Q (.nx σ) B) :
    ∀ (n m : Nat) (σ : SEnv) (B : Bg), m < n → I m σ B → W (whileL c f n σ B) Q
  | 0, m, σ, B, hm, h => by omega
  | n + 1, m, σ, B, hm, h => by
    obtain ⟨d, B', e, t, rfl, ht⟩ := hs m σ B h
    simp only [whileL, W_bind, e, W_ok]
    cases t with
    | false => simpa using ht
    | true =>
      simp only [if_true] at ht
      obtain ⟨x, B2, e2, hi⟩ := ht
      rw [W_bind]
      refine ⟨x, B2, e2, ?_⟩
      cases x with
      | nx σ' =>
        obtain ⟨k, hk, hi⟩ := hi
        exact W_whileL I hs n k σ' B2 (by omega) hi
      | rt d => exact W_ok.mpr hi
/-- a slot that may be stored to: there, and not the bag -/
def freeAt (σ : SEnv) (i : Nat) : Bool := match σ[i]? with
  | none => false
  | some .bag => false
  | some _ => true
@[simp] theorem W_asgO {i : Nat} {e : ME} : W (evS Γ (.asgO i e) σ B) Q ↔ W (ev Γ e σ B) fun x B => Wl x fun ds => freeAt σ i = true ∧ Wo (some (σ.set i (.own ds))) fun τ => Q (.nx τ) B := by
  simp only [evS, W_bind]
  refine W_iff fun x B => ?_
  rcases h : σ[i]? with _ | _ | _ | _ | _ <;> cases x <;> simp [freeAt, Wl, h]
@[simp] theorem W_app {i : Nat} {e : ME} : W (evS Γ (.app i e) σ B) Q ↔ Wc (σ[i]?) fun ds => W (ev Γ e σ B) fun x B => ds.length < sizeLine ∧ Wo (some (σ.set i (.own (ds ++ [x])))) fun τ => Q (.nx τ) B := by
  simp only [evS]
  rcases h : σ[i]? with _ | _ | _ | ds | _ <;> simp [Wc]
  refine W_iff fun x B => ?_
  by_cases hl : ds.length < sizeLine <;> simp [hl]
@[simp] theorem W_keep {i : Nat} : W (evS Γ (.keep i) σ B) Q ↔ Wc (σ[i]?) fun ds => Wo (some (σ.set i (.val (.list ds)))) fun τ => Q (.nx τ) B := by
  simp only [evS]
  rcases h : σ[i]? with _ | _ | _ | ds | _ <;> simp [Wc]
@[simp] theorem W_retO {i : Nat} : W (evS Γ (.retO i) σ B) Q ↔ Wc (σ[i]?) fun ds => Q (.rt (.list ds)) B := by
  simp only [evS]
  rcases h : σ[i]? with _ | _ | _ | ds | _ <;> simp [Wc]
@[simp] theorem W_setL {i : Nat} {k e : ME} : W (evS Γ (.setL i k e) σ B) Q ↔ W (ev Γ e σ B) fun x B => Wc (σ[i]?) fun ds => W (ev Γ k σ B) fun y B => Wi y fun z => Wo (ixD ds.length z) fun j => Wo (some (σ.set i (.own (ds.set j x)))) fun τ => Q (.nx τ) B := by
  simp only [evS, W_bind]
  refine W_iff fun x B => ?_
  rcases h : σ[i]? with _ | _ | _ | ds | _ <;> simp [Wc]
  refine W_iff fun y B => ?_
  cases y <;> simp [Wi]
  rename_i z
  cases ixD ds.length z <;> simp
@[simp] theorem W_setbag {i f : Nat} {es : MEs} : W (evS Γ (.setbag i f es) σ B) Q ↔ W (evs Γ es σ B) fun ds _ => Wr (Γ.call f ds) fun d => Wl d fun xs => Wo (ints? xs) fun ns => bagFree i σ = true ∧ Wo (some (σ.set i .bag)) fun τ => Q (.nx τ) ns := by
  simp only [evS, W_bind]
  refine W_iff fun ds B => ?_
  cases h : Γ.call f ds with
  | stuck => simp [R.bind]
  | err n => simp [R.bind]
  | ok d =>
    cases d <;> simp [R.bind, Wl]
    rename_i xs
    cases hx : ints? xs with
    | none => simp
    | some ns => cases hb : bagFree i σ <;> simp
@[simp] theorem W_raise {c : Nat} : W (evS Γ (.raise c) σ B) Q ↔ False := by rw [evS, W_err]
end
theorem fin_ok {r : M Fl} {d : D} (h : W r fun f _ => f = .rt d) : fin r = .ok d := by
  obtain ⟨f, B, rfl, rfl⟩ := h
  rfl
theorem fin_none {r : M Fl} (h : W r fun f _ => ∃ σ, f = .nx σ) : fin r = .ok .none := by
  obtain ⟨f, B, rfl, σ, rfl⟩ := h
  rfl
/-- the end of a def that draws -/
theorem W_endD {r : M Fl} {Q : D → Bg → Prop} : W (endD r) Q ↔ W r fun f B => Wf f (fun _ => Q .none B) (fun d => Q d B) := by
  unfold endD
  rw [W_bind]
  refine W_iff fun f B => ?_
  cases f <;> simp
@[simp] theorem tab_call (n : Nat) : (tab P0 n).call = callP P0 n := rfl
@[simp] theorem tab_callb (n : Nat) : (tab P0 n).callb = callB P0 n := rfl
@[simp] theorem tab_gc (n k : Nat) : (tab P0 n).gc k = gcv k := rfl
@[simp] theorem gcv0 : gcv 0 = .int 6 := rfl
@[simp] theorem gcv1 : gcv 1 = .tuple [.int 0, .int 1] := rfl
@[simp] theorem gcv2 : gcv 2 = .tuple [.int 1, .int 0] := rfl
end PD
set_option linter.all false
set_option maxRecDepth 100000
set_option maxHeartbeats 1000000
/-! What the checks of lands and scripts compute. -/
namespace PD
open PySem PySem.Spec PyProof.Rows L2
mutual
def clean : D → Bool
  | .dict _ => false
  | .list xs => cleans xs
  | .tuple xs => cleans xs
  | .str x => PyData.strOk x
  | _ => true
def cleans : List D → Bool
  | [] => true
  | x :: xs => clean x && cleans xs
end
theorem cleans_iff : ∀ {xs : List D}, cleans xs = true ↔ ∀ d ∈ xs, clean d = true
  | [] => by simp [cleans]
  | x :: xs => by simp [cleans, cleans_iff (xs := xs)]
@[simp] theorem clean_tup {xs : List D} : clean (.tuple xs) = cleans xs := by rw [clean]
@[simp] theorem clean_lst {xs : List D} : clean (.list xs) = cleans xs := by rw [clean]
@[simp] theorem clean_int {i : Int} : clean (.int i) = true := by rw [clean] <;> simp
@[simp] theorem clean_bool {i : Bool} : clean (.bool i) = true := by rw [clean] <;> simp
@[simp] theorem clean_none : clean .none = true := by rw [clean] <;> simp
@[simp] theorem clean_dict {l : List (D × D)} : clean (.dict l) = false := by rw [clean]
@[simp] theorem clean_str {x : Str} : clean (.str x) = PyData.strOk x := by rw [clean]
@[simp] theorem cleans_nil : cleans [] = true := by rw [cleans]
@[simp] theorem cleans_cons {x : D} {xs : List D} : cleans (x :: xs) = (clean x && cleans xs) := by rw [cleans]
def plainB : D → Bool
  | .int _ => true
  | _ => false
def wholeB (d : D) (lo hi : Int) : Bool := match d with
  | .int i => decide (lo ≤ i) && decide (i ≤ hi)
  | _ => false
@[simp] theorem wholeB_int {i lo hi : Int} : wholeB (.int i) lo hi = (decide (lo ≤ i) && decide (i ≤ hi)) := rfl
theorem v_is_plain (n : Nat) (d : D) (h : clean d = true) : callP P0 (n + 1) 0 [d] = .ok (.bool (plainB d)) := by
  rw [run_is_plain]
  apply fin_ok
  cases d <;> simp_all [L_is_plain, plainB]
theorem v_is_whole (n : Nat) (d : D) (lo hi : Int) (h : clean d = true) : callP P0 (n + 2) 1 [d, .int lo, .int hi] = .ok (.bool (wholeB d lo hi)) := by
  rw [run_is_whole]
  apply fin_ok
  simp [L_is_whole, v_is_plain n d h]
  cases d <;> simp_all [plainB, wholeB]
def heightsB : D → Bool
  | .tuple xs => decide (3 ≤ xs.length) && (decide (xs.length ≤ 8) && xs.all fun x => wholeB x 0 9)
  | _ => false
theorem v_are_heights (n : Nat) (d : D) (h : clean d = true) : callP P0 (n + 3) 2 [d] = .ok (.bool (heightsB d)) := by
  rw [run_are_heights]
  apply fin_ok
  cases d with
  | tuple xs =>
    have hx := cleans_iff.mp (by simpa using h)
    by_cases h3 : (3 : Int) ≤ xs.length <;> by_cases h8 : (xs.length : Int) ≤ 8 <;>
      simp [L_are_heights, h3, h8, heightsB] <;> try omega
    refine W_compL (g := fun x => .bool (wholeB x 0 9)) (fun x hm => ?_) ?_
    · simp [v_is_whole n x 0 9 (hx x hm)]
    · simp [heightsB, show 3 ≤ xs.length by omega, show xs.length ≤ 8 by omega]
  | dict _ => simp at h
  | _ => simp [L_are_heights, heightsB]
def gateB (d : D) (c : Int) : Bool := match d with
  | .tuple [a, b, e] => wholeB a 0 (c - 1) && (wholeB b 1 9 && (match e with | .bool _ => true | _ => false))
  | _ => false
theorem v_is_gate (n : Nat) (d : D) (c : Int) (h : clean d = true) : callP P0 (n + 3) 3 [d, .int c] = .ok (.bool (gateB d c)) := by
  rw [run_is_gate]
  apply fin_ok
  cases d with
  | tuple xs =>
    have hx := cleans_iff.mp (by simpa using h)
    match xs, hx with
    | [a, b, e], hx =>
      have ha := v_is_whole n a 0 (c - 1) (hx a (by simp))
      have hb := v_is_whole n b 1 9 (hx b (by simp))
      have he := hx e (by simp)
      simp [L_is_gate, ha, hb, gateB]
      cases h1 : wholeB a 0 (c - 1) <;> cases h2 : wholeB b 1 9 <;> simp
      cases e <;> simp at he ⊢
    | [], _ => simp [L_is_gate, gateB]
    | [_], _ => simp [L_is_gate, gateB]
    | [_, _], _ => simp [L_is_gate, gateB]
    | _ :: _ :: _ :: _ :: r, _ =>
      have : ¬ ((r.length : Int) + 1 + 1 + 1 + 1 = 3) := by omega
      simp [L_is_gate, gateB, this]
  | dict _ => simp at h
  | _ => simp [L_is_gate, gateB]
theorem cut_tail {α : Type} {xs : List α} : cutL xs (some 1) none = xs.tail := by
  unfold cutL cutAt
  cases xs with
  | nil => rfl
  | cons x xs => simp
@[simp] theorem slice_tailT {xs : List D} : sliceD (.tuple xs) (some 1) none = some (.tuple xs.tail) := by simp [sliceD, cut_tail]
@[simp] theorem slice_tailL {xs : List D} : sliceD (.list xs) (some 1) none = some (.list xs.tail) := by simp [sliceD, cut_tail]
def encG (g : Int × Int × Bool) : D := .tuple [.int g.1, .int g.2.1, .bool g.2.2]
def pairB : D → Bool
  | .tuple [.tuple (.int i :: _), .tuple (.int j :: _)] => decide (i < j)
  | _ => true
def ordB (gs : List D) : Bool := (zipD gs gs.tail).all pairB
def rainB (d : D) (c : Int) : Bool := match d with
  | .tuple [.int i, .int j] => wholeB (.int i) 0 (c - 1) && (wholeB (.int j) 0 (c - 1) && decide (i ≤ j))
  | _ => false
def landB (d : D) : Bool := match d with
  | .tuple [.tuple hs, .tuple gs, r] => heightsB (.tuple hs) && (decide (gs.length ≤ 3) && (gs.all (fun g => gateB g hs.length) && (ordB gs && rainB r hs.length)))
  | _ => false
theorem gateB_enc {d : D} {c : Int} (h : gateB d c = true) : ∃ g, d = encG g ∧ 0 ≤ g.1 ∧ g.1 ≤ c - 1 ∧ 1 ≤ g.2.1 ∧ g.2.1 ≤ 9 := by
  unfold gateB at h
  split at h
  · rename_i a b e
    simp only [Bool.and_eq_true] at h
    obtain ⟨h1, h2, h3⟩ := h
    cases a <;> simp [wholeB] at h1
    cases b <;> simp [wholeB] at h2
    cases e <;> simp at h3
    exact ⟨(_, _, _), rfl, h1.1, h1.2, h2.1, h2.2⟩
  · cases h
theorem gates_enc {c : Int} : ∀ {gs : List D}, gs.all (fun g => gateB g c) = true → ∃ l : List (Int × Int × Bool), gs = l.map encG ∧ ∀ g ∈ l, 0 ≤ g.1 ∧ g.1 ≤ c - 1 ∧ 1 ≤ g.2.1 ∧ g.2.1 ≤ 9
  | [], _ => ⟨[], rfl, by simp⟩
  | d :: ds, h => by
    simp only [List.all_cons, Bool.and_eq_true] at h
    obtain ⟨g, rfl, hg⟩ := gateB_enc h.1
    obtain ⟨l, rfl, hl⟩ := gates_enc h.2
    exact ⟨g :: l, rfl, by
      intro x hx
      rcases List.mem_cons.mp hx with e | e
      · rw [e]; exact hg
      · exact hl x e⟩
theorem zip_mem : ∀ {xs ys : List D} {d : D}, d ∈ zipD xs ys → ∃ x ∈ xs, ∃ y ∈ ys, d = .tuple [x, y]
  | [], _, d, h => by simp [zipD] at h
  | _ :: _, [], d, h => by simp [zipD] at h
  | x :: xs, y :: ys, d, h => by
    simp only [zipD, List.mem_cons] at h
    rcases h with h | h
    · exact ⟨x, by simp, y, by simp, h⟩
    · obtain ⟨a, ha, b, hb, e⟩ := zip_mem h
      exact ⟨a, by simp [ha], b, by simp [hb], e⟩
theorem land_len {xs : List D} (h : xs.length ≠ 3) : landB (.tuple xs) = false := by
  unfold landB
  split
  · rename_i e
    cases e
    simp at h
  · rfl
theorem v_is_land (n : Nat) (d : D) (h : clean d = true) : callP P0 (n + 4) 4 [d] = .ok (.bool (landB d)) := by
  rw [run_is_land]
  apply fin_ok
  cases d with
  | tuple xs =>
    have hx := cleans_iff.mp (by simpa using h)
    by_cases h3 : xs.length = 3
    · match xs, h3, hx with
      | [a, b, e], hn3, hx =>
      clear hn3
      have ha := v_are_heights n a (hx a (by simp))
      have cb := hx b (by simp)
      have ce := hx e (by simp)
      cases hh : heightsB a with
      | false =>
        simp [L_is_land, ha, hh]
        cases a <;> cases b <;> simp [landB, hh]
      | true =>
        obtain ⟨hs, rfl⟩ : ∃ hs, a = .tuple hs := by cases a <;> simp [heightsB] at hh ⊢
        cases b with
        | tuple gs =>
          have cg := cleans_iff.mp (by simpa using cb)
          by_cases hl : (gs.length : Int) ≤ 3
          · have hl' : gs.length ≤ 3 := by omega
            simp [L_is_land, ha, hh, show ¬ (3 < (gs.length : Int)) by omega]
            refine W_compL (g := fun x => .bool (gateB x hs.length)) (fun x hm => ?_) ?_
            · simp [v_is_gate n x hs.length (cg x hm)]
            · simp only [all_map]
              cases hg : gs.all (fun g => gateB g hs.length) with
              | false => simp [hg, landB, -List.all_eq_true, -List.all_eq_false]
              | true =>
                obtain ⟨l, rfl, hb⟩ := gates_enc hg
                simp [-List.all_eq_true, -List.all_eq_false]
                refine W_compL (g := fun x => .bool (pairB x)) (fun x hm => ?_) ?_
                · obtain ⟨y, hy, z, hz, rfl⟩ := zip_mem hm
                  obtain ⟨y', _, rfl⟩ := List.mem_map.mp hy
                  obtain ⟨z', _, rfl⟩ := List.mem_map.mp (List.mem_of_mem_tail hz)
                  simp [encG, pairB]
                · simp only [all_map]
                  have eo : (zipD (l.map encG) (l.map encG).tail).all pairB = ordB (l.map encG) := rfl
                  rw [eo]
                  have e0 : landB (.tuple [.tuple hs, .tuple (l.map encG), e]) = (ordB (l.map encG) && rainB e hs.length) := by
                    simp only [landB, hh, hg]
                    rw [decide_eq_true hl']; rfl
                  rw [e0]
                  cases ordB (l.map encG) with
                  | false => simp
                  | true =>
                    simp
                    cases e with
                    | tuple rs =>
                      have cr := cleans_iff.mp (by simpa using ce)
                      match rs, cr with
                      | [p, q], cr =>
                        simp
                        refine W_compL (g := fun x => .bool (wholeB x 0 (hs.length - 1))) (fun x hm => ?_) ?_
                        · simp [v_is_whole (n + 1) x 0 (hs.length - 1) (cr x hm)]
                        · simp only [all_map]
                          simp [-List.all_eq_true, -List.all_eq_false]
                          cases p <;> cases q <;> simp [rainB, wholeB]
                          rename_i i j
                          by_cases h1 : 0 ≤ i <;> by_cases h2 : i ≤ (hs.length : Int) - 1 <;> by_cases h3 : 0 ≤ j <;> by_cases h4 : j ≤ (hs.length : Int) - 1 <;> simp [h1, h2, h3, h4] <;> omega
                      | [], _ => simp [rainB]
                      | [_], _ => simp [rainB]
                      | _ :: _ :: _ :: r, _ =>
                        have : ¬ ((r.length : Int) + 1 + 1 + 1 = 2) := by omega
                        simp [rainB, this]
                    | dict _ => simp at ce
                    | _ => simp [rainB]
          · simp [L_is_land, ha, hh, show (3 < (gs.length : Int)) by omega, landB, show ¬ gs.length ≤ 3 by omega]
        | dict _ => simp at cb
        | _ => simp [L_is_land, ha, hh, landB]
    · have : ¬ ((xs.length : Int) = 3) := by omega
      simp [L_is_land, this, land_len h3]
  | dict _ => simp at h
  | _ => simp [L_is_land, landB]
end PD
set_option linter.all false
set_option maxRecDepth 100000
set_option maxHeartbeats 1000000
/-! Lands as typed values; steps, scripts, amounts, grounds. -/
namespace PD
open PySem PySem.Spec PyProof.Rows L2
structure Ld where
  hs : List Int
  gs : List (Nat × Int × Bool)
  r0 : Nat
  r1 : Nat
def encGt (g : Nat × Int × Bool) : D := .tuple [.int g.1, .int g.2.1, .bool g.2.2]
def encLd (L : Ld) : D := .tuple [.tuple (L.hs.map .int), .tuple (L.gs.map encGt), .tuple [.int L.r0, .int L.r1]]
/-- consecutive gates ascend -/
def asc : List (Nat × Int × Bool) → Prop
  | a :: b :: r => a.1 < b.1 ∧ asc (b :: r)
  | _ => True
structure Ld.Ok (L : Ld) : Prop where
  l3 : 3 ≤ L.hs.length
  l8 : L.hs.length ≤ 8
  h : ∀ x ∈ L.hs, 0 ≤ x ∧ x ≤ 9
  g3 : L.gs.length ≤ 3
  g : ∀ g ∈ L.gs, g.1 < L.hs.length ∧ 1 ≤ g.2.1 ∧ g.2.1 ≤ 9
  a : asc L.gs
  r : L.r0 ≤ L.r1
  r1 : L.r1 < L.hs.length
theorem ints_whole : ∀ {xs : List D} {lo hi : Int}, xs.all (fun x => wholeB x lo hi) = true → ∃ ns : List Int, xs = ns.map .int ∧ ∀ x ∈ ns, lo ≤ x ∧ x ≤ hi
  | [], _, _, _ => ⟨[], rfl, by simp⟩
  | x :: xs, lo, hi, h => by
    simp only [List.all_cons, Bool.and_eq_true] at h
    obtain ⟨ns, rfl, hn⟩ := ints_whole h.2
    have h1 := h.1
    cases x <;> simp [wholeB] at h1
    rename_i i
    exact ⟨i :: ns, rfl, by
      intro x hx
      rcases List.mem_cons.mp hx with e | e
      · rw [e]; exact h1
      · exact hn x e⟩
theorem ord_asc : ∀ {l : List (Nat × Int × Bool)}, ordB (l.map encGt) = true ↔ asc l
  | [] => by simp [ordB, asc, zipD]
  | [a] => by simp [ordB, asc, zipD]
  | a :: b :: r => by
    have ih := ord_asc (l := b :: r)
    simp only [ordB, List.map_cons, List.tail_cons] at ih ⊢
    rw [zipD, List.all_cons, Bool.and_eq_true, ih]
    simp [pairB, encGt, asc]
theorem heights_enc {d : D} (h : heightsB d = true) : ∃ ns : List Int, d = .tuple (ns.map .int) ∧ 3 ≤ ns.length ∧ ns.length ≤ 8 ∧ ∀ x ∈ ns, 0 ≤ x ∧ x ≤ 9 := by
  cases d <;> simp only [heightsB, Bool.and_eq_true, decide_eq_true_eq] at h
  all_goals first | (cases h; done) | skip
  rename_i xs
  obtain ⟨h1, h2, h3⟩ := h
  obtain ⟨ns, rfl, hn⟩ := ints_whole h3
  exact ⟨ns, rfl, by simpa using h1, by simpa using h2, hn⟩
theorem land_enc {d : D} (h : landB d = true) : ∃ L : Ld, d = encLd L ∧ L.Ok := by
  unfold landB at h
  split at h
  · rename_i hs gs r
    simp only [Bool.and_eq_true, decide_eq_true_eq] at h
    obtain ⟨h1, h2, h3, h4, h5⟩ := h
    obtain ⟨ns, e, n3, n8, hn⟩ := heights_enc h1
    cases e
    obtain ⟨l, rfl, hl⟩ := gates_enc h3
    simp only [List.length_map] at *
    have : l.map encG = (l.map fun g => (g.1.toNat, g.2)).map encGt := by
      rw [List.map_map]
      refine List.map_congr_left fun g hg => ?_
      have := (hl g hg).1
      simp [encG, encGt]
      omega
    rw [this, ord_asc] at h4
    rw [this]
    unfold rainB at h5
    split at h5
    · rename_i i j
      simp at h5
      refine ⟨⟨ns, l.map fun g => (g.1.toNat, g.2), i.toNat, j.toNat⟩, ?_, n3, n8, hn, by simpa using h2, ?_, h4, ?_, ?_⟩
      · simp only [encLd]
        rw [Int.toNat_of_nonneg (by omega), Int.toNat_of_nonneg (by omega)]
      · intro g hg
        obtain ⟨g', hg', rfl⟩ := List.mem_map.mp hg
        have := hl g' hg'
        refine ⟨?_, this.2.2.1, this.2.2.2⟩
        show g'.1.toNat < _
        simp only
        omega
      · show i.toNat ≤ j.toNat; omega
      · show j.toNat < _; simp only; omega
    · cases h5
  · cases h
theorem land_of {L : Ld} (o : L.Ok) : landB (encLd L) = true := by
  have h1 : heightsB (.tuple (L.hs.map .int)) = true := by
    simp only [heightsB, List.length_map, Bool.and_eq_true, decide_eq_true_eq, List.all_map]
    refine ⟨o.l3, o.l8, ?_⟩
    rw [List.all_eq_true]
    intro x hx
    have := o.h x hx
    simp [this]
  have h3 : (L.gs.map encGt).all (fun g => gateB g (L.hs.map PyData.int).length) = true := by
    rw [List.all_map, List.all_eq_true]
    intro g hg
    have := o.g g hg
    simp [encGt, gateB]
    omega
  have hr := o.r
  have hr1 := o.r1
  have h4 : ordB (L.gs.map encGt) = true := ord_asc.mpr o.a
  have h5 := o.g3
  show (heightsB _ && (decide _ && (List.all _ _ && (ordB _ && rainB _ _)))) = true
  rw [h1, h3, h4]
  simp [rainB]
  omega
theorem land_iff {d : D} : landB d = true ↔ ∃ L : Ld, d = encLd L ∧ L.Ok := ⟨land_enc, fun ⟨L, e, o⟩ => e ▸ land_of o⟩
theorem clean_ints : ∀ {ns : List Int}, cleans (ns.map .int) = true
  | [] => rfl
  | n :: ns => by simp [clean_ints]
theorem clean_encLd {L : Ld} : clean (encLd L) = true := by
  have h1 : cleans (L.hs.map .int) = true := clean_ints
  have h2 : cleans (L.gs.map encGt) = true := by
    rw [cleans_iff]
    intro d hd
    obtain ⟨g, _, rfl⟩ := List.mem_map.mp hd
    simp [encGt]
  simp [encLd, h1, h2]
/-! ### steps and scripts -/
def stepB (L : Ld) (d : D) : Bool := match d with
  | .tuple [.str s, b, c] => ((s == "wait") && (wholeB b 0 (L.hs.length - 1) && wholeB c 0 20))
  | .tuple [.str s, b] => ((["open", "shut"] : List Str).any (· == s) && wholeB b 0 (L.gs.length - 1))
  | _ => false
@[simp] theorem eq_strS {x y : Str} (h1 : PyData.strOk x = true) (h2 : PyData.strOk y = true) : eqD (.str x) (.str y) = some (decide (x = y)) := by
  rw [eq_str h1 h2]
  by_cases h : x = y <;> simp [h]
@[simp] theorem ok_wait : PyData.strOk "wait" = true := by decide +kernel
@[simp] theorem ok_open : PyData.strOk "open" = true := by decide +kernel
@[simp] theorem ok_shut : PyData.strOk "shut" = true := by decide +kernel
theorem ok_oc : ∀ x ∈ (["open", "shut"] : List Str), PyData.strOk x = true := by decide +kernel
theorem stepB_len {L : Ld} {xs : List D} (h : xs.length ≠ 2 ∧ xs.length ≠ 3) : stepB L (.tuple xs) = false := by
  unfold stepB
  split
  · rename_i e; cases e; simp at h
  · rename_i e; cases e; simp at h
  · rfl
theorem v_is_step (n : Nat) (L : Ld) (d : D) (h : clean d = true) : callP P0 (n + 3) 5 [encLd L, d] = .ok (.bool (stepB L d)) := by
  rw [run_is_step]
  apply fin_ok
  cases d with
  | tuple xs =>
    have hx := cleans_iff.mp (by simpa using h)
    match xs, hx with
    | [a, b, c], hx =>
      have hb := v_is_whole n b 0 (L.hs.length - 1) (hx b (by simp))
      have hc := v_is_whole n c 0 20 (hx c (by simp))
      have ha := hx a (by simp)
      cases a with
      | str s =>
        simp at ha
        by_cases hw : s = ("wait" : Str)
        · subst hw
          simp [L_is_step, encLd, hb, hc, stepB]
          cases wholeB b 0 (L.hs.length - 1) <;> simp
        · simp [L_is_step, encLd, hb, hc, ha, stepB, hw]
      | dict _ => simp at ha
      | _ => simp [L_is_step, stepB]
    | [a, b], hx =>
      have hb := v_is_whole n b 0 (L.gs.length - 1) (hx b (by simp))
      have ha := hx a (by simp)
      cases a with
      | str s =>
        simp at ha
        have hi := in_strsT (xs := ["open", "shut"]) ha ok_oc
        simp only [List.map_cons, List.map_nil] at hi
        rw [L_is_step]
        generalize hT : ((["open", "shut"] : List Str).any (· == s)) = t at hi
        have e1 : stepB L (.tuple [.str s, b]) = (t && wholeB b 0 (L.gs.length - 1)) := by rw [← hT]; rfl
        rw [e1]
        cases t <;> simp [encLd, hb, hi]
      | dict _ => simp at ha
      | _ => simp [L_is_step, stepB]
    | [], _ => simp [L_is_step, stepB]
    | [_], _ => simp [L_is_step, stepB]
    | _ :: _ :: _ :: _ :: r, _ =>
      have : ¬ ((r.length : Int) + 1 + 1 + 1 + 1 ≤ 3) := by omega
      have h2 : (2 : Int) ≤ (r.length : Int) + 1 + 1 + 1 + 1 := by omega
      simp [L_is_step, this, h2]
      exact stepB_len (by simp)
  | dict _ => simp at h
  | _ => simp [L_is_step, stepB]
def scriptB (L : Ld) (d : D) : Bool := match d with
  | .tuple xs => decide (xs.length ≤ 6) && xs.all fun x => stepB L x
  | _ => false
theorem v_fits_script (n : Nat) (L : Ld) (d : D) (h : clean d = true) : callP P0 (n + 4) 6 [encLd L, d] = .ok (.bool (scriptB L d)) := by
  rw [run_fits_script]
  apply fin_ok
  cases d with
  | tuple xs =>
    have hx := cleans_iff.mp (by simpa using h)
    by_cases h6 : xs.length ≤ 6
    · simp [L_fits_script, show ¬ (6 < (xs.length : Int)) by omega]
      refine W_compL (g := fun x => .bool (stepB L x)) (fun x hm => ?_) ?_
      · simp [v_is_step n L x (hx x hm)]
      · simp [scriptB, h6]
    · simp [L_fits_script, show (6 < (xs.length : Int)) by omega, scriptB, h6]
  | dict _ => simp at h
  | _ => simp [L_fits_script, scriptB]
/-! ### grounds -/
def shutIx (n : Nat) : List (Nat × Int × Bool) → List Nat
  | [] => []
  | g :: r => if g.2.2 = true then n :: shutIx (n + 1) r else shutIx (n + 1) r
def shutOf (L : Ld) : List Nat := shutIx 0 L.gs
theorem shutIx_lt : ∀ {n : Nat} {gs : List (Nat × Int × Bool)} {k : Nat}, k ∈ shutIx n gs → n ≤ k ∧ k < n + gs.length
  | n, [], k, h => by simp [shutIx] at h
  | n, g :: r, k, h => by
    unfold shutIx at h
    split at h
    · rcases List.mem_cons.mp h with e | e
      · subst e; simp
      · have := shutIx_lt e
        simp; omega
    · have := shutIx_lt h
      simp; omega
def encN (ns : List Nat) : List D := ns.map fun k => .int (k : Nat)
theorem shut_enum : ∀ {n : Nat} {gs : List (Nat × Int × Bool)}, ((gs.zipIdx n).filterMap fun p => if p.1.2.2 = true then some (PyData.int (p.2 : Nat)) else none) = encN (shutIx n gs)
  | n, [] => rfl
  | n, g :: r => by
    rw [List.zipIdx_cons, List.filterMap_cons, shut_enum (n := n + 1) (gs := r)]
    rw [show shutIx n (g :: r) = if g.2.2 = true then n :: shutIx (n + 1) r else shutIx (n + 1) r from rfl]
    cases g.2.2 <;> simp [encN]
theorem v_first_shut (n : Nat) (L : Ld) : callP P0 (n + 1) 10 [encLd L] = .ok (.tuple (encN (shutOf L))) := by
  rw [run_first_shut]
  apply fin_ok
  simp [L_first_shut, encLd, enumD_eq, List.zipIdx_map, List.map_map]
  refine W_compMO (g := fun p => if p.1.2.2 = true then some (.int p.2) else none) (fun p hp => ?_) ?_
  · obtain ⟨g, k⟩ := p
    simp [encGt, Prod.map]
  · rw [shut_enum]
    simp [shutOf]
/-- what a gate adds to the ground of a column -/
def gadd (L : Ld) (c : Nat) (k : Nat) : Int := match L.gs[k]? with
  | some g => if g.1 = c then g.2.1 else 0
  | none => 0
/-- the ground of a column, some gates being shut -/
def gnd (L : Ld) (S : List Nat) (c : Nat) : Int := S.foldl (fun a k => a + gadd L c k) (L.hs.getD c 0)
theorem gnd_snoc {L : Ld} {S : List Nat} {c k : Nat} : gnd L (S ++ [k]) c = gnd L S c + gadd L c k := by simp [gnd]
theorem v_ground_of (n : Nat) (L : Ld) (S : List Nat) (c : Nat) (hc : c < L.hs.length) (hS : ∀ k ∈ S, k < L.gs.length) {d : D} (hd : seqD d = some (encN S)) : callP P0 (n + 1) 9 [encLd L, d, .int c] = .ok (.int (gnd L S c)) := by
  rw [run_ground_of]
  apply fin_ok
  have h0 : itemD (.tuple (L.hs.map PyData.int)) (.int c) = some (.int (gnd L [] c)) := item_tn (by simp [gnd, hc])
  rw [L_ground_of]
  simp [encLd, h0, hd]
  refine W_forL (I := fun r σ B => ∃ pre suf s4, S = pre ++ suf ∧ r = encN suf ∧ σ = [.val (encLd L), .val d, .val (.int c), .val (.int (gnd L pre c)), s4]) ?_ ?_ _ _ _ ⟨[], S, .emp, rfl, rfl, rfl⟩
  · rintro d' r σ B ⟨pre, suf, s4, e, e2, rfl⟩
    cases suf with
    | nil => simp [encN] at e2
    | cons k suf =>
      simp only [encN, List.map_cons, List.cons.injEq] at e2
      obtain ⟨rfl, rfl⟩ := e2
      have hk : k < L.gs.length := hS k (by rw [e]; simp)
      have hi : itemD (.tuple (L.gs.map encGt)) (.int k) = some (encGt L.gs[k]) := item_tn (by simp [hk])
      have hg : gadd L c k = if L.gs[k].1 = c then L.gs[k].2.1 else 0 := by simp [gadd, hk]
      by_cases hh : L.gs[k].1 = c
      · simp [encLd, hi, encGt, hh]
        exact ⟨pre ++ [k], suf, by simp [e], rfl, by rw [gnd_snoc, hg, if_pos hh]⟩
      · have hh' : ¬ ((L.gs[k].1 : Int) = (c : Int)) := by omega
        simp [encLd, hi, encGt, hh']
        exact ⟨pre ++ [k], suf, by simp [e], rfl, by rw [gnd_snoc, hg, if_neg hh]; simp⟩
  · rintro σ B ⟨pre, suf, s4, e, e2, rfl⟩
    have : suf = [] := by simpa [encN] using e2.symm
    subst this
    simp at e
    simp [e]
theorem v_need_land (n : Nat) (d : D) (h : clean d = true) (hl : landB d = true) : callP P0 (n + 5) 11 [d] = .ok .none := by
  rw [run_need_land]
  apply fin_none
  simp [L_need_land, v_is_land n d h, hl]
theorem x_need_land (n : Nat) (d : D) (h : clean d = true) (hl : landB d = false) : callP P0 (n + 5) 11 [d] = .err 1 := by
  rw [run_need_land]
  simp [L_need_land, evSs, evS, ev, evs, boolM, getV, M.bind, R.bind, ofO, v_is_land n d h, hl, fin, endD]
theorem v_is_script (n : Nat) (L : Ld) (o : L.Ok) (d : D) (h : clean d = true) : callP P0 (n + 6) 12 [encLd L, d] = .ok (.bool (scriptB L d)) := by
  rw [run_is_script]
  apply fin_ok
  simp [L_is_script, v_need_land n (encLd L) clean_encLd (land_of o), v_fits_script (n + 1) L d h]
theorem x_is_script (n : Nat) (e d : D) (h : clean e = true) (hl : landB e = false) : callP P0 (n + 6) 12 [e, d] = .err 1 := by
  rw [run_is_script]
  simp [L_is_script, evSs, evS, ev, evs, boolM, getV, M.bind, R.bind, ofO, x_need_land n e h hl, fin, endD]
def gnds (L : Ld) (S : List Nat) : List Int := (List.range L.hs.length).map (gnd L S)
theorem shutOf_lt {L : Ld} : ∀ k ∈ shutOf L, k < L.gs.length := fun k h => by
  have := shutIx_lt h
  omega
theorem v_grounds (n : Nat) (L : Ld) (o : L.Ok) : callP P0 (n + 6) 13 [encLd L] = .ok (.list ((gnds L (shutOf L)).map .int)) := by
  rw [run_grounds]
  apply fin_ok
  have hl := o.l8
  have e0 : itemD (encLd L) (.int 0) = some (.tuple (L.hs.map .int)) := item_t0
  simp [L_grounds, v_need_land n (encLd L) clean_encLd (land_of o), e0, rngOk_n (show L.hs.length < 1000 by omega)]
  refine W_compM (g := fun c => .int (gnd L (shutOf L) c)) (fun c hc => ?_) ?_
  · have hc := List.mem_range.mp hc
    simp [v_first_shut (n + 4) L, v_ground_of (n + 4) L (shutOf L) c hc shutOf_lt (d := .tuple (encN (shutOf L))) rfl]
  · simp [gnds]
theorem x_grounds (n : Nat) (d : D) (h : clean d = true) (hl : landB d = false) : callP P0 (n + 6) 13 [d] = .err 1 := by
  rw [run_grounds]
  simp [L_grounds, evSs, evS, ev, evs, boolM, getV, M.bind, R.bind, ofO, x_need_land n d h hl, fin, endD]
end PD
set_option linter.all false
set_option maxRecDepth 100000
set_option maxHeartbeats 1000000
/-! Common divisors, amounts. -/
namespace PD
open PySem PySem.Spec PyProof.Rows L2
def lg (n : Nat) : Nat := if n = 0 then 0 else n.log2 + 1
theorem lg_le {a b : Nat} (h : a ≤ b) : lg a ≤ lg b := by
  unfold lg
  by_cases ha : a = 0
  · simp [ha]
  · have hb : b ≠ 0 := by omega
    simp only [ha, hb, if_false]
    have : a.log2 ≤ b.log2 := (Nat.le_log2 hb).mpr (Nat.le_trans (Nat.log2_self_le ha) h)
    omega
theorem lg_half {a b : Nat} (h : 2 * a ≤ b) (hb : b ≠ 0) : lg a < lg b := by
  unfold lg
  by_cases ha : a = 0
  · simp [ha, hb]
  · simp only [ha, hb, if_false]
    have : (2 * a).log2 = a.log2 + 1 := by
      rw [Nat.log2_def]
      simp
      omega
    have h2 : (2 * a).log2 ≤ b.log2 := (Nat.le_log2 hb).mpr (Nat.le_trans (Nat.log2_self_le (by omega)) h)
    omega
def gcdN (a b : Int) : Nat := Nat.gcd a.natAbs b.natAbs
theorem mod_half {x y : Nat} (h : y ≤ x) (hy : 0 < y) : 2 * (x % y) ≤ x := by
  have h1 := Nat.mod_lt x hy
  have h2 : x % y ≤ x - y := by
    have := Nat.div_add_mod x y
    have h3 : 1 ≤ x / y := (Nat.le_div_iff_mul_le hy).mpr (by omega)
    have : y * 1 ≤ y * (x / y) := Nat.mul_le_mul_left y h3
    omega
  omega
theorem v_divisor_of (n : Nat) (a b : Int) (hs : a.natAbs.log2 + b.natAbs.log2 < 999000) : callP P0 (n + 1) 7 [.int a, .int b] = .ok (.int (gcdN a b)) := by
  rw [run_divisor_of]
  apply fin_ok
  have e : ∀ c : Int, (if c < 0 then -c else c) = (c.natAbs : Int) := by intro c; split <;> omega
  simp only [L_divisor_of, W_scons, W_par, W_blt, W_var, getV_val, getV_s, Wo_some, blt_abs, List.set_cons_zero, List.set_cons_succ, Wf_nx, W_whil, e]
  refine W_whileL (fun m σ B => ∃ x y : Nat, σ = [.val (.int x), .val (.int y)] ∧ Nat.gcd x y = gcdN a b ∧ m = lg x + lg y + if x < y then 1 else 0) ?_ _ (lg a.natAbs + lg b.natAbs + if a.natAbs < b.natAbs then 1 else 0) _ _ ?_ ⟨_, _, rfl, rfl, rfl⟩
  · rintro m σ B ⟨x, y, rfl, hg, rfl⟩
    by_cases hy : y = 0
    · subst hy
      have : x = gcdN a b := by simpa using hg
      simp [this]
    · have hy' : ¬ ((y : Int) = 0) := by omega
      have hy2 : (0 : Int) < y := by omega
      simp [hy, Nat.pos_of_ne_zero hy]
      refine ⟨_, ?_, y, x % y, ⟨rfl, by simp⟩, by rw [Nat.gcd_comm, ← Nat.gcd_rec, Nat.gcd_comm]; exact hg, rfl⟩
      have h1 := Nat.mod_lt x (show y > 0 by omega)
      by_cases hxy : x < y
      · rw [Nat.mod_eq_of_lt hxy]
        simp [hxy, show ¬ y < x by omega]
        omega
      · have := lg_half (mod_half (show y ≤ x by omega) (by omega)) (show x ≠ 0 by omega)
        simp [hxy, show ¬ y < x % y by omega]
        omega
  · show _ < 1000000
    unfold lg
    split <;> split <;> split <;> omega
def amtB (d : D) : Bool := match d with
  | .tuple [.int a, .int b] => decide (0 ≤ a) && (decide (0 < b) && decide (gcdN a b = 1))
  | _ => false
/-- numbers that are not too long -/
def shortI : D → Prop
  | .int a => a.natAbs.log2 < 400000
  | _ => True
theorem amtB_len {xs : List D} (h : xs.length ≠ 2) : amtB (.tuple xs) = false := by
  unfold amtB
  split
  · rename_i e; cases e; simp at h
  · rfl
theorem v_is_amount (n : Nat) (d : D) (h : clean d = true) (hs : ∀ xs, d = .tuple xs → ∀ x ∈ xs, shortI x) : callP P0 (n + 2) 8 [d] = .ok (.bool (amtB d)) := by
  rw [run_is_amount]
  apply fin_ok
  cases d with
  | tuple xs =>
    have hx := cleans_iff.mp (by simpa using h)
    have hs := hs xs rfl
    match xs, hx, hs with
    | [a, b], hx, hs =>
      have ha := v_is_plain n a (hx a (by simp))
      have hb := v_is_plain n b (hx b (by simp))
      cases a with
      | int i =>
        cases b with
        | int j =>
          have h1 := hs (.int i) (by simp)
          have h2 := hs (.int j) (by simp)
          simp only [shortI] at h1 h2
          have hd := v_divisor_of n i j (by omega)
          simp [L_is_amount, ha, hb, plainB, hd, amtB]
          have h5 : ((gcdN i j : Int) = 1) ↔ gcdN i j = 1 := by omega
          by_cases h3 : 0 ≤ i <;> by_cases h4 : 0 < j <;> simp [h3, h4, h5]
        | _ => simp [L_is_amount, ha, hb, plainB, amtB]
      | _ => simp [L_is_amount, ha, hb, plainB, amtB]
    | [], _, _ => simp [L_is_amount, amtB]
    | [_], _, _ => simp [L_is_amount, amtB]
    | _ :: _ :: _ :: r, _, _ =>
      have : ¬ ((r.length : Int) + 1 + 1 + 1 = 2) := by omega
      simp [L_is_amount, this]
      exact amtB_len (by simp)
  | dict _ => simp at h
  | _ => simp [L_is_amount, amtB]
end PD
set_option linter.all false
set_option maxRecDepth 100000
set_option maxHeartbeats 1000000
/-! The checks of lands and scripts that the law makes itself. -/
namespace PD
open PySem PySem.Spec PyProof.Rows L2
mutual
theorem clean_canLay : ∀ d : D, PyData.canLay0 d = clean d
  | .none => rfl
  | .bool _ => rfl
  | .int _ => rfl
  | .str _ => rfl
  | .list xs => by rw [clean_lst, PyData.canLay0]; exact cleans_canLay xs
  | .tuple xs => by rw [clean_tup, PyData.canLay0]; exact cleans_canLay xs
  | .dict _ => rfl
theorem cleans_canLay : ∀ ds : List D, PyData.canLayAll0 ds = cleans ds
  | [] => rfl
  | d :: ds => by rw [cleans_cons, PyData.canLayAll0, clean_canLay d, cleans_canLay ds]
end
theorem depth_mem : ∀ {xs : List D} {x : D}, x ∈ xs → x.depth ≤ PyData.depthAll xs
  | y :: ys, x, h => by
    rw [PyData.depthAll]
    rcases List.mem_cons.mp h with e | e
    · subst e; omega
    · have := depth_mem e
      omega
theorem depth_sub : ∀ {xs : List D} {m : Nat}, (∀ x ∈ xs, x.depth ≤ m) → PyData.depthAll xs ≤ m
  | [], m, _ => by rw [PyData.depthAll]; omega
  | y :: ys, m, h => by
    rw [PyData.depthAll]
    have h1 := h y (by simp)
    have h2 := depth_sub (xs := ys) fun x hx => h x (by simp [hx])
    omega
theorem shaped_of {d : D} (h : clean d = true) (hd : d.depth ≤ 64) : SeqAt.shaped d = true := by
  rw [SeqAt.shaped, clean_canLay, h, decide_eq_true hd]; rfl
theorem eq_nilL {xs : List D} (h : cleans xs = true) (hd : PyData.depthAll xs ≤ 63) : eqD (.list xs) (.list []) = some xs.isEmpty := by
  rw [eqD_of (shaped_of (by rw [clean_lst]; exact h) (by rw [PyData.depth]; omega)) (by rfl)]
  cases xs <;> simp only [PyData.eqv, PyData.eqvAll, List.isEmpty]
theorem eq_nilT {xs : List D} (h : cleans xs = true) (hd : PyData.depthAll xs ≤ 63) : eqD (.tuple xs) (.tuple []) = some xs.isEmpty := by
  rw [eqD_of (shaped_of (by rw [clean_tup]; exact h) (by rw [PyData.depth]; omega)) (by rfl)]
  cases xs <;> simp only [PyData.eqv, PyData.eqvAll, List.isEmpty]
theorem v_law_truly (n : Nat) (a b : Bool) : callP P0 (n + 1) 26 [.bool a, .bool b] = .ok (.bool (decide (a = b))) := by
  rw [run__law_truly]
  apply fin_ok
  simp [L__law_truly]
theorem v_law_whole (n : Nat) (d : D) (lo hi : Int) (h : clean d = true) : callP P0 (n + 1) 27 [d, .int lo, .int hi] = .ok (.bool (wholeB d lo hi)) := by
  rw [run__law_whole]
  apply fin_ok
  cases d <;> simp_all [L__law_whole, wholeB]
/-- the gates from one on, told by the column of the one ahead -/
def gsB (many ahead : Int) : List D → Bool
  | [] => true
  | .tuple [.int c, m, .bool _] :: r => (decide (ahead + 1 ≤ c) && decide (c ≤ many - 1)) && (wholeB m 1 9 && gsB many c r)
  | _ :: _ => false
def headOk (ahead : Int) : List D → Prop
  | .tuple (.int c :: _) :: _ => ahead + 1 ≤ c
  | _ => True
theorem ordB_cons {c : Int} {x : List D} {r : List D} : ordB (.tuple (.int c :: x) :: r) = true ↔ headOk c r ∧ ordB r = true := by
  cases r with
  | nil => simp [ordB, zipD, headOk]
  | cons b r =>
    simp only [ordB, List.tail_cons, zipD, List.all_cons, Bool.and_eq_true]
    refine and_congr ?_ Iff.rfl
    unfold pairB headOk
    cases b <;> try simp
    rename_i ys
    cases ys with
    | nil => simp
    | cons y ys =>
      cases y <;> try simp
      omega
theorem gsB_iff {many : Int} : ∀ {gs : List D} {ahead : Int}, -1 ≤ ahead → (gsB many ahead gs = true ↔ gs.all (fun g => gateB g many) = true ∧ ordB gs = true ∧ headOk ahead gs)
  | [], ahead, _ => by simp [gsB, ordB, zipD, headOk]
  | g :: r, ahead, ha => by
    rw [List.all_cons, Bool.and_eq_true]
    by_cases hg : ∃ c m s, g = .tuple [.int c, m, .bool s]
    · obtain ⟨c, m, s, rfl⟩ := hg
      rw [ordB_cons]
      simp only [gsB, gateB, headOk, wholeB_int, Bool.and_eq_true, decide_eq_true_eq, Bool.and_true]
      constructor
      · rintro ⟨⟨h1, h2⟩, h3, h4⟩
        obtain ⟨k1, k2, k3⟩ := (gsB_iff (by omega)).mp h4
        exact ⟨⟨⟨⟨by omega, h2⟩, h3⟩, k1⟩, ⟨k3, k2⟩, h1⟩
      · rintro ⟨⟨⟨⟨h1, h2⟩, h3⟩, k1⟩, ⟨k3, k2⟩, h4⟩
        exact ⟨⟨h4, h2⟩, h3, (gsB_iff (by omega)).mpr ⟨k1, k2, k3⟩⟩
    · have h1 : gsB many ahead (g :: r) = false := by
        unfold gsB
        split
        · rename_i e; cases e
        · rename_i e; cases e; exact absurd ⟨_, _, _, rfl⟩ hg
        · rfl
      have h2 : gateB g many = false := by
        cases h : gateB g many with
        | false => rfl
        | true =>
          obtain ⟨g', rfl, _⟩ := gateB_enc h
          exact absurd ⟨_, _, _, rfl⟩ hg
      simp [h1, h2]
theorem gsB_eq {many : Int} {gs : List D} : gsB many (-1) gs = (gs.all (fun g => gateB g many) && ordB gs) := by
  rw [Bool.eq_iff_iff, gsB_iff (by omega), Bool.and_eq_true]
  refine ⟨fun ⟨a, b, _⟩ => ⟨a, b⟩, fun ⟨a, b⟩ => ⟨a, b, ?_⟩⟩
  cases gs with
  | nil => trivial
  | cons g r =>
    simp only [List.all_cons, Bool.and_eq_true] at a
    obtain ⟨g', rfl, h0, _⟩ := gateB_enc a.1
    show -1 + 1 ≤ g'.1
    omega
theorem gsB_bad {many ahead : Int} {g : D} {r : List D} (h : ¬ ∃ c m s, g = .tuple [.int c, m, .bool s] ∧ ahead + 1 ≤ c ∧ c ≤ many - 1 ∧ wholeB m 1 9 = true) : gsB many ahead (g :: r) = false := by
  unfold gsB
  split
  · rename_i e; cases e
  · rename_i c m s r' e
    cases e
    cases hw : wholeB m 1 9 with
    | false => simp
    | true =>
      by_cases h1 : ahead + 1 ≤ c <;> by_cases h2 : c ≤ many - 1 <;> simp [h1, h2]
      exact absurd ⟨c, m, s, rfl, h1, h2, hw⟩ h
  · rfl
theorem filt_all {p : D → Bool} : ∀ xs : List D, (xs.filterMap (fun x => if p x = true then none else some x)).isEmpty = xs.all p
  | [] => rfl
  | y :: ys => by
    rw [List.filterMap_cons, List.all_cons, ← filt_all ys]
    cases p y <;> simp
theorem filt_mem {p : D → Bool} {xs : List D} {x : D} (h : x ∈ xs.filterMap (fun x => if p x = true then none else some x)) : x ∈ xs := by
  obtain ⟨y, hy, e⟩ := List.mem_filterMap.mp h
  cases hw : p y <;> simp [hw] at e
  rw [← e]; exact hy
theorem v_law_good (n : Nat) (d : D) (h : clean d = true) (hd : d.depth ≤ 60) : callP P0 (n + 2) 28 [d] = .ok (.bool (landB d)) := by
  rw [run__law_good]
  apply fin_ok
  cases d with
  | tuple xs =>
    have hx := cleans_iff.mp (by simpa using h)
    by_cases h3 : xs.length = 3
    · match xs, h3, hx with
      | [a, b, e], hn3, hx =>
      clear hn3
      have ca := hx a (by simp)
      have cb := hx b (by simp)
      have ce := hx e (by simp)
      cases a with
      | tuple hs =>
        have ch := cleans_iff.mp (by simpa using ca)
        have dh : PyData.depthAll hs ≤ 63 := by
          simp only [PyData.depth, PyData.depthAll] at hd
          omega
        have hb' : heightsB (.tuple hs) = (decide (3 ≤ hs.length) && (decide (hs.length ≤ 8) && hs.all fun x => wholeB x 0 9)) := rfl
        by_cases h38 : 3 ≤ hs.length ∧ hs.length ≤ 8
        · obtain ⟨k3, k8⟩ := h38
          simp [L__law_good, show (3 : Int) ≤ hs.length by omega, show (hs.length : Int) ≤ 8 by omega]
          refine W_compO (g := fun x => if wholeB x 0 9 = true then none else some x) (fun x hm => ?_) ?_
          · simp [v_law_whole n x 0 9 (ch x hm)]
          · have hf : ∀ x ∈ hs.filterMap (fun x => if wholeB x 0 9 = true then none else some x), x ∈ hs := fun x hx => filt_mem hx
            have hn := eq_nilL (xs := hs.filterMap (fun x => if wholeB x 0 9 = true then none else some x)) (cleans_iff.mpr fun x hx => ch x (hf x hx)) (depth_sub fun x hx => Nat.le_trans (depth_mem (hf x hx)) dh)
            have hall : (hs.filterMap (fun x => if wholeB x 0 9 = true then none else some x)).isEmpty = hs.all fun x => wholeB x 0 9 := filt_all hs
            rw [hall] at hn
            cases ha : hs.all fun x => wholeB x 0 9 with
            | false =>
              rw [ha] at hn
              simp [hn]
              cases b <;> simp [landB, heightsB, ha, -List.all_eq_true, -List.all_eq_false]
            | true =>
              rw [ha] at hn
              have hh : heightsB (.tuple hs) = true := by rw [hb', ha]; simp [k3, k8]
              simp [hn]
              cases b with
              | tuple gs =>
                have cg := cleans_iff.mp (by simpa using cb)
                by_cases hl : gs.length ≤ 3
                · simp [show ¬ (3 < (gs.length : Int)) by omega]
                  refine W_forL (I := fun r σ B => ∃ ahead s4, gsB hs.length ahead r = gsB hs.length (-1) gs ∧ (∀ x ∈ r, clean x = true) ∧ σ = [.val (.tuple [.tuple hs, .tuple gs, e]), .val (.int hs.length), .emp, .val (.int ahead), s4]) ?_ ?_ _ _ _ ⟨-1, .emp, rfl, cg, rfl⟩
                  · rintro g r σ B ⟨ahead, s4, e1, c1, rfl⟩
                    have cgg := c1 g (by simp)
                    by_cases hgood : ∃ c m s, g = .tuple [.int c, m, .bool s] ∧ ahead + 1 ≤ c ∧ c ≤ hs.length - 1 ∧ wholeB m 1 9 = true
                    · obtain ⟨c, m, s, rfl, q1, q2, q3⟩ := hgood
                      have cm : clean m = true := by simpa using cgg
                      have w1 := v_law_whole n (.int c) (ahead + 1) (hs.length - 1) rfl
                      have w2 := v_law_whole n m 1 9 cm
                      rw [q3] at w2
                      rw [wholeB_int, decide_eq_true q1, decide_eq_true q2] at w1
                      simp [w1, w2]
                      refine ⟨?_, fun x hx => c1 x (by simp [hx])⟩
                      rw [← e1]
                      simp [gsB, q1, q2, q3]
                    · have hbad := gsB_bad (r := r) hgood
                      rw [e1, gsB_eq] at hbad
                      have e2 : landB (.tuple [.tuple hs, .tuple gs, e]) = false := by
                        have : landB (.tuple [.tuple hs, .tuple gs, e]) = (heightsB (.tuple hs) && (decide (gs.length ≤ 3) && ((gs.all (fun g => gateB g hs.length) && ordB gs) && rainB e hs.length))) := by
                          simp only [landB, Bool.and_assoc]
                        rw [this, hbad]; simp
                      rw [e2]
                      cases g with
                      | tuple ys =>
                        have cy := cleans_iff.mp (by simpa using cgg)
                        match ys, cy with
                        | [p, q, t], cy =>
                          have cp := cy p (by simp)
                          have cq := cy q (by simp)
                          have ct := cy t (by simp)
                          have w1 := v_law_whole n p (ahead + 1) (hs.length - 1) cp
                          have w2 := v_law_whole n q 1 9 cq
                          simp [w1]
                          cases hw1 : wholeB p (ahead + 1) (hs.length - 1) with
                          | false => simp
                          | true =>
                            simp [w2]
                            cases hw2 : wholeB q 1 9 with
                            | false => simp
                            | true =>
                              cases t with
                              | bool b =>
                                exfalso
                                cases p <;> simp [wholeB] at hw1
                                exact hgood ⟨_, q, b, rfl, hw1.1, hw1.2, hw2⟩
                              | dict _ => simp at ct
                              | _ => simp
                        | [], _ => simp
                        | [_], _ => simp
                        | [_, _], _ => simp
                        | _ :: _ :: _ :: _ :: z, _ =>
                          have : ¬ ((z.length : Int) + 1 + 1 + 1 + 1 = 3) := by omega
                          simp [this]
                      | dict _ => simp at cgg
                      | _ => simp
                  · rintro σ B ⟨ahead, s4, e1, -, rfl⟩
                    have e1 : (gs.all (fun g => gateB g hs.length) && ordB gs) = true := by rw [← gsB_eq, ← e1]; rfl
                    have e2 : landB (.tuple [.tuple hs, .tuple gs, e]) = rainB e hs.length := by
                      have : landB (.tuple [.tuple hs, .tuple gs, e]) = (heightsB (.tuple hs) && (decide (gs.length ≤ 3) && ((gs.all (fun g => gateB g hs.length) && ordB gs) && rainB e hs.length))) := by
                        simp only [landB, Bool.and_assoc]
                      rw [this, e1, hh]; simp [hl]
                    rw [e2]
                    cases e with
                    | tuple rs =>
                      have cr := cleans_iff.mp (by simpa using ce)
                      match rs, cr with
                      | [p, q], cr =>
                        have w1 := v_law_whole n q 0 (hs.length - 1) (cr q (by simp))
                        simp [w1]
                        cases hq : wholeB q 0 (hs.length - 1) with
                        | false =>
                          have e3 : rainB (.tuple [p, q]) hs.length = false := by
                            cases p <;> cases q <;> try rfl
                            simp only [rainB]
                            rw [hq]; simp
                          simp [e3]
                        | true =>
                          cases q <;> simp [wholeB] at hq
                          rename_i j
                          have w2 := v_law_whole n p 0 j (cr p (by simp))
                          simp [w2]
                          cases p <;> simp [rainB, wholeB]
                          rename_i i
                          by_cases z1 : 0 ≤ i <;> by_cases z2 : i ≤ j <;> simp [z1, z2] <;> omega
                      | [], _ => simp [rainB]
                      | [_], _ => simp [rainB]
                      | _ :: _ :: _ :: r, _ =>
                        have : ¬ ((r.length : Int) + 1 + 1 + 1 = 2) := by omega
                        simp [rainB, this]
                    | dict _ => simp at ce
                    | _ => simp [rainB]
                · simp [show (3 < (gs.length : Int)) by omega, landB, hl]
              | dict _ => simp at cb
              | _ => simp [landB]
        · have e1 : landB (.tuple [.tuple hs, b, e]) = false := by
            cases b <;> simp [landB, heightsB, -List.all_eq_true, -List.all_eq_false]
            intro k3 k8
            exact absurd ⟨k3, k8⟩ h38
          rw [e1]
          by_cases k3 : (3 : Int) ≤ hs.length
          · simp [L__law_good, k3, show ¬ ((hs.length : Int) ≤ 8) by omega]
          · simp [L__law_good, k3]
      | dict _ => simp at ca
      | _ => simp [L__law_good, landB]
    · have : ¬ ((xs.length : Int) = 3) := by omega
      simp [L__law_good, this, land_len h3]
  | dict _ => simp at h
  | _ => simp [L__law_good, landB]
theorem v_law_good_step (n : Nat) (L : Ld) (d : D) (h : clean d = true) : callP P0 (n + 2) 29 [encLd L, d] = .ok (.bool (stepB L d)) := by
  rw [run__law_good_step]
  apply fin_ok
  have in23 : ∀ i : Int, inD (.int i) (.list [.int 2, .int 3]) = some (decide (i = 2 ∨ i = 3)) := by
    intro i
    have : SeqAt.shaped (.list [.int 2, .int 3]) = true := by rfl
    simp only [inD, shaped_int, this, Bool.and_self, if_true, List.any_cons, List.any_nil, PyData.eqv]
    by_cases h2 : i = 2 <;> by_cases h3 : i = 3 <;> simp [h2, h3] <;> omega
  cases d with
  | tuple xs =>
    have hx := cleans_iff.mp (by simpa using h)
    match xs, hx with
    | [a, b, c], hx =>
      have hb := v_law_whole n b 0 (L.hs.length - 1) (hx b (by simp))
      have hc := v_law_whole n c 0 20 (hx c (by simp))
      have ha := hx a (by simp)
      cases a with
      | str s =>
        simp at ha
        by_cases hw : s = ("wait" : Str)
        · subst hw
          simp [L__law_good_step, in23, encLd, hb, hc, stepB]
          cases wholeB b 0 (L.hs.length - 1) <;> simp
        · simp [L__law_good_step, in23, encLd, hb, hc, ha, stepB, hw]
      | dict _ => simp at ha
      | _ => simp [L__law_good_step, in23, stepB]
    | [a, b], hx =>
      have hb := v_law_whole n b 0 (L.gs.length - 1) (hx b (by simp))
      have ha := hx a (by simp)
      cases a with
      | str s =>
        simp at ha
        have hi := in_strsL (xs := ["open", "shut"]) ha ok_oc
        simp only [List.map_cons, List.map_nil] at hi
        rw [L__law_good_step]
        generalize hT : ((["open", "shut"] : List Str).any (· == s)) = t at hi
        have e1 : stepB L (.tuple [.str s, b]) = (t && wholeB b 0 (L.gs.length - 1)) := by rw [← hT]; rfl
        rw [e1]
        cases t <;> simp [in23, encLd, hb, hi]
      | dict _ => simp at ha
      | _ => simp [L__law_good_step, in23, stepB]
    | [], _ => simp [L__law_good_step, in23, stepB]
    | [_], _ => simp [L__law_good_step, in23, stepB]
    | _ :: _ :: _ :: _ :: r, _ =>
      have : ¬ ((r.length : Int) + 1 + 1 + 1 + 1 = 2) := by omega
      have h2 : ¬ ((r.length : Int) + 1 + 1 + 1 + 1 = 3) := by omega
      simp [L__law_good_step, in23, this, h2]
      exact stepB_len (by simp)
  | dict _ => simp at h
  | _ => simp [L__law_good_step, stepB]
theorem v_law_good_script (n : Nat) (L : Ld) (d : D) (h : clean d = true) (hd : d.depth ≤ 60) : callP P0 (n + 3) 30 [encLd L, d] = .ok (.bool (scriptB L d)) := by
  rw [run__law_good_script]
  apply fin_ok
  cases d with
  | tuple xs =>
    have hx := cleans_iff.mp (by simpa using h)
    have dx : PyData.depthAll xs ≤ 63 := by
      simp only [PyData.depth] at hd
      omega
    by_cases h6 : xs.length ≤ 6
    · simp [L__law_good_script, show ¬ (6 < (xs.length : Int)) by omega]
      refine W_compO (g := fun x => if stepB L x = true then none else some x) (fun x hm => ?_) ?_
      · simp [v_law_good_step n L x (hx x hm)]
      · have hn := eq_nilL (xs := xs.filterMap (fun x => if stepB L x = true then none else some x)) (cleans_iff.mpr fun x h => hx x (filt_mem h)) (depth_sub fun x h => Nat.le_trans (depth_mem (filt_mem h)) dx)
        rw [filt_all] at hn
        simp [hn, scriptB, h6]
    · simp [L__law_good_script, show (6 < (xs.length : Int)) by omega, scriptB, h6]
  | dict _ => simp at h
  | _ => simp [L__law_good_script, scriptB]
def flagAt (gs : List (Nat × Int × Bool)) (k : Nat) : Bool := (gs[k]?.map (·.2.2)).getD false
theorem shut_range : ∀ (gs : List (Nat × Int × Bool)) (n : Nat), ((List.range gs.length).filterMap fun (k : Nat) => if flagAt gs k = true then some (PyData.int ((n + k : Nat) : Int)) else none) = encN (shutIx n gs)
  | [], n => rfl
  | g :: r, n => by
    have ih := shut_range r (n + 1)
    have e : ∀ k : Nat, n + 1 + k = n + (k + 1) := by intro k; omega
    simp only [e] at ih
    rw [List.length_cons, List.range_succ_eq_map, List.filterMap_cons, List.filterMap_map, show shutIx n (g :: r) = if g.2.2 = true then n :: shutIx (n + 1) r else shutIx (n + 1) r from rfl]
    have e2 : flagAt (g :: r) 0 = g.2.2 := rfl
    have e3 : (fun (k : Nat) => if flagAt (g :: r) k = true then some (PyData.int ((n + k : Nat) : Int)) else none) ∘ Nat.succ = fun (k : Nat) => if flagAt r k = true then some (PyData.int ((n + (k + 1) : Nat) : Int)) else none := by
      funext k
      rfl
    rw [e2, e3, ih]
    cases g.2.2 <;> simp [encN]
theorem v_law_shut (n : Nat) (L : Ld) (h : L.gs.length < 1000) : callP P0 (n + 1) 23 [encLd L] = .ok (.list (encN (shutOf L))) := by
  rw [run__law_shut]
  apply fin_ok
  have e1 : itemD (encLd L) (.int 1) = some (.tuple (L.gs.map encGt)) := item_t1
  simp [L__law_shut, e1, rngOk_n h]
  refine W_compMO (g := fun (k : Nat) => if flagAt L.gs k = true then some (.int ((0 + k : Nat) : Int)) else none) (fun k hk => ?_) ?_
  · have hk := List.mem_range.mp hk
    have hi : itemD (.tuple (L.gs.map encGt)) (.int k) = some (encGt L.gs[k]) := item_tn (by simp [hk])
    simp [e1, hi, encGt, hk, flagAt]
  · have := shut_range L.gs 0
    rw [this]
    simp [shutOf]
end PD
set_option linter.all false
set_option maxRecDepth 100000
set_option maxHeartbeats 1000000
/-! Grounds as the law tells them; draws. -/
namespace PD
open PySem PySem.Spec PyProof.Rows L2
theorem gnds_nil {L : Ld} : gnds L [] = L.hs := by
  unfold gnds gnd
  apply List.ext_getElem <;> simp
  intro i h1 h2
  rw [List.getElem?_eq_getElem h1]; rfl
theorem gnds_snoc {L : Ld} {S : List Nat} {k : Nat} (hk : k < L.gs.length) (hc : L.gs[k].1 < L.hs.length) : gnds L (S ++ [k]) = (gnds L S).set L.gs[k].1 (gnd L S L.gs[k].1 + L.gs[k].2.1) := by
  apply List.ext_getElem
  · simp [gnds]
  · intro i h1 h2
    simp only [gnds, List.length_map, List.length_range] at h1
    rw [List.getElem_set]
    simp only [gnds, List.getElem_map, List.getElem_range, gnd_snoc]
    have hg : gadd L i k = if L.gs[k].1 = i then L.gs[k].2.1 else 0 := by simp [gadd, hk]
    rw [hg]
    split
    · rename_i e; rw [e]
    · omega
@[simp] theorem gnds_len {L : Ld} {S : List Nat} : (gnds L S).length = L.hs.length := by simp [gnds]
theorem v_law_grounds (n : Nat) (L : Ld) (S : List Nat) (hS : ∀ k ∈ S, k < L.gs.length) (hg : ∀ g ∈ L.gs, g.1 < L.hs.length) {d : D} (hd : seqD d = some (encN S)) : callP P0 (n + 1) 22 [encLd L, d] = .ok (.list ((gnds L S).map .int)) := by
  rw [run__law_grounds]
  apply fin_ok
  have e0 : itemD (encLd L) (.int 0) = some (.tuple (L.hs.map .int)) := item_t0
  have e1 : itemD (encLd L) (.int 1) = some (.tuple (L.gs.map encGt)) := item_t1
  simp [L__law_grounds, e0, hd, freeAt]
  refine W_forL (I := fun r σ B => ∃ pre suf s3 s4 s5 s6, S = pre ++ suf ∧ r = encN suf ∧ σ = [.val (encLd L), .val d, .own ((gnds L pre).map .int), s3, s4, s5, s6]) ?_ ?_ _ _ _ ⟨[], S, .emp, .emp, .emp, .emp, rfl, rfl, by rw [gnds_nil]⟩
  · rintro d' r σ B ⟨pre, suf, s3, s4, s5, s6, e, e2, rfl⟩
    cases suf with
    | nil => simp [encN] at e2
    | cons k suf =>
      simp only [encN, List.map_cons, List.cons.injEq] at e2
      obtain ⟨rfl, rfl⟩ := e2
      have hk : k < L.gs.length := hS k (by rw [e]; simp)
      have hc : L.gs[k].1 < L.hs.length := hg _ (List.getElem_mem hk)
      have hi : itemD (.tuple (L.gs.map encGt)) (.int k) = some (encGt L.gs[k]) := item_tn (by simp [hk])
      have hj : itemD (.list ((gnds L pre).map PyData.int)) (.int L.gs[k].1) = some (.int (gnd L pre L.gs[k].1)) := item_ln (by simp [gnds, hc])
      have hx : ixD L.hs.length (L.gs[k].1 : Nat) = some L.gs[k].1 := ixD_nat hc
      simp [e1, hi, encGt, hj, hx]
      exact ⟨pre ++ [k], suf, by simp [e], rfl, by rw [gnds_snoc hk hc, List.map_set]⟩
  · rintro σ B ⟨pre, suf, s3, s4, s5, s6, e, e2, rfl⟩
    have : suf = [] := by simpa [encN] using e2.symm
    subst this
    simp at e
    simp [e]
/-! ### draws -/
@[simp] theorem bagAt_0 {σ : SEnv} : bagAt (.bag :: σ) 0 = true := rfl
@[simp] theorem bagAt_s {s : Sl} {σ : SEnv} {n : Nat} : bagAt (s :: σ) (n + 1) = bagAt σ n := by simp [bagAt]
theorem W_take (n : Nat) {m : Int} (hm : 0 < m) {B : Bg} {Q : D → Bg → Prop} (q : ∀ v : Nat, (v : Int) < m → Q (.int v) B.tail) : W (callB P0 (n + 1) 17 [.int m] B) Q := by
  rw [run__law_take, W_endD]
  have hh : ∃ v : Nat, (v : Int) < m ∧ B.headD 0 % m = v := by
    have h1 := Int.emod_nonneg (B.headD 0) (show m ≠ 0 by omega)
    have h2 := Int.emod_lt_of_pos (B.headD 0) hm
    exact ⟨(B.headD 0 % m).toNat, by omega, by omega⟩
  obtain ⟨v, hv, e⟩ := hh
  have := q v hv
  rw [← e] at this
  cases B with
  | nil => simpa [L__law_take, hm] using this
  | cons x r => simpa [L__law_take, hm] using this
theorem W_choice (n : Nat) {xs : List D} (hx : xs ≠ []) {B : Bg} {Q : D → Bg → Prop} (q : ∀ x ∈ xs, Q x B.tail) : W (callB P0 (n + 2) 18 [.list xs] B) Q := by
  rw [run__law_choice, W_endD]
  have hl : 0 < xs.length := List.length_pos_iff.mpr hx
  simp [L__law_choice]
  refine W_take n (by omega) fun v hv => ?_
  have hv : v < xs.length := by omega
  have hi : itemD (.list xs) (.int v) = some xs[v] := item_ln (by simp [hv])
  simp [hi]
  exact q _ (List.getElem_mem hv)
end PD
set_option linter.all false
set_option maxRecDepth 100000
set_option maxHeartbeats 1000000
/-! Drawn lands and scripts. -/
namespace PD
open PySem PySem.Spec PyProof.Rows L2
theorem W_compI0 {f : D → Bg → M (Option D)} {Q : List D → Bg → Prop} (I : List D → List D → Bg → Prop) {ds : List D} {B : Bg} (h0 : I ds [] B) (hs : ∀ d r acc B, I (d :: r) acc B → W (f d B) fun o B' => I r (acc ++ o.toList) B') (hq : ∀ acc B, I [] acc B → Q acc B) : W (compL f ds B) Q := by
  have := W_compI I hs hq ds [] B h0
  simpa using this
/-! ### sorted(set(..)) -/
theorem insI_mem {x y : Int} : ∀ {l : List Int}, y ∈ insI x l ↔ y = x ∨ y ∈ l
  | [] => by simp [insI]
  | z :: r => by
    unfold insI
    split
    · simp
    · simp [insI_mem (l := r)]
      constructor
      · rintro (h | h | h) <;> simp [h]
      · rintro (h | h | h) <;> simp [h]
theorem sortI_mem {y : Int} : ∀ {l : List Int}, y ∈ sortI l ↔ y ∈ l
  | [] => by simp [sortI]
  | x :: r => by simp [sortI, insI_mem, sortI_mem (l := r)]
theorem insI_len {x : Int} : ∀ {l : List Int}, (insI x l).length = l.length + 1
  | [] => rfl
  | z :: r => by
    unfold insI
    split
    · rfl
    · simp [insI_len (l := r)]
theorem sortI_len : ∀ {l : List Int}, (sortI l).length = l.length
  | [] => rfl
  | x :: r => by simp [sortI, insI_len, sortI_len (l := r)]
theorem insI_lt {x : Int} : ∀ {l : List Int}, l.Pairwise (· < ·) → x ∉ l → (insI x l).Pairwise (· < ·)
  | [], _, _ => by simp [insI]
  | z :: r, h, hx => by
    unfold insI
    simp only [List.pairwise_cons, List.mem_cons, not_or] at h hx
    split
    · rename_i hle
      simp only [List.pairwise_cons]
      refine ⟨fun y hy => ?_, h⟩
      rcases List.mem_cons.mp hy with e | e
      · subst e; omega
      · have := h.1 y e; omega
    · rename_i hle
      simp only [List.pairwise_cons]
      refine ⟨fun y hy => ?_, insI_lt h.2 hx.2⟩
      rcases insI_mem.mp hy with e | e
      · subst e; omega
      · exact h.1 y e
theorem onceI_iff {y : Int} : ∀ {l : List Int}, y ∈ onceI l ↔ y ∈ l
  | [] => by simp [onceI]
  | x :: r => by
    unfold onceI
    split
    · rename_i h
      simp [onceI_iff (l := r)]
      intro e; rw [e]; exact h
    · simp [onceI_iff (l := r)]
theorem onceI_len : ∀ {l : List Int}, (onceI l).length ≤ l.length
  | [] => by simp [onceI]
  | x :: r => by
    unfold onceI
    have := onceI_len (l := r)
    split <;> simp <;> omega
theorem once_lt : ∀ {l : List Int}, (sortI (onceI l)).Pairwise (· < ·)
  | [] => by simp [onceI, sortI]
  | x :: r => by
    unfold onceI
    split
    · exact once_lt
    · rename_i h
      rw [sortI]
      exact insI_lt once_lt (by rw [sortI_mem, onceI_iff]; exact h)
theorem asc_of : ∀ {l : List (Nat × Int × Bool)}, (l.map fun g => (g.1 : Int)).Pairwise (· < ·) → asc l
  | [], _ => trivial
  | [a], _ => trivial
  | a :: b :: r, h => by
    simp only [List.map_cons, List.pairwise_cons] at h
    refine ⟨?_, asc_of (by simpa using h.2)⟩
    have := h.1 (b.1 : Int) (by simp)
    omega
def M5 (gs : List (Nat × Int × Bool)) : Prop := ∀ g ∈ gs, 1 ≤ g.2.1 ∧ g.2.1 ≤ 5
/-- a land as it is drawn -/
structure Ld.Drawn (L : Ld) : Prop extends L.Ok where
  l7 : L.hs.length ≤ 7
  m5 : ∀ g ∈ L.gs, g.2.1 ≤ 5
theorem blt_sset_ints {ns : List Int} (h : ns.length < 60) : bltD .sset (.list (ns.map .int)) = some (.list ((sortI (onceI ns)).map .int)) := by
  simp [bltD, ssetD, ints_map, h]
theorem W_law_land (n : Nat) {B : Bg} {Q : D → Bg → Prop} (q : ∀ L B', Ld.Drawn L → Q (encLd L) B') : W (callB P0 (n + 3) 20 [] B) Q := by
  rw [run__law_land, W_endD]
  simp [L__law_land]
  refine W_take (n + 1) (by omega) fun v hv => ?_
  have hr : rngOk 0 (3 + (v : Int)) = true := by
    have := rngOk_n (n := 3 + v) (by omega)
    simpa using this
  simp [hr]
  refine W_compI0 (fun r acc B => ∃ hs : List Int, acc = hs.map .int ∧ (∀ x ∈ hs, 0 ≤ x ∧ x ≤ 9) ∧ hs.length + r.length = 3 + v) ⟨[], rfl, by simp, by simp; omega⟩ ?_ ?_
  · rintro d r acc B ⟨hs, rfl, h1, h2⟩
    simp
    refine W_choice n (by simp) fun x hx => ?_
    have : ∃ i : Int, x = .int i ∧ 0 ≤ i ∧ i ≤ 9 := by
      simp at hx
      rcases hx with rfl | rfl | rfl | rfl | rfl | rfl | rfl | rfl | rfl <;> exact ⟨_, rfl, by omega, by omega⟩
    obtain ⟨i, rfl, i0, i9⟩ := this
    refine ⟨hs ++ [i], by simp, ?_, ?_⟩
    · intro y hy
      rcases List.mem_append.mp hy with e | e
      · exact h1 y e
      · simp at e; subst e; exact ⟨i0, i9⟩
    · simp at h2 ⊢; omega
  · rintro acc B ⟨hs, rfl, h1, h2⟩
    simp at h2
    simp
    refine W_take (n + 1) (by omega) fun w hw => ?_
    simp [rngOk_n (show w < 1000 by omega)]
    refine W_compI0 (fun r acc B => ∃ cs : List Int, acc = cs.map .int ∧ (∀ x ∈ cs, 0 ≤ x ∧ x < 3 + v) ∧ cs.length + r.length = w) ⟨[], rfl, by simp, by simp⟩ ?_ ?_
    · rintro d r acc B ⟨cs, rfl, k1, k2⟩
      simp
      refine W_take (n + 1) (by omega) fun u hu => ?_
      refine ⟨cs ++ [(u : Int)], by simp, ?_, ?_⟩
      · intro y hy
        rcases List.mem_append.mp hy with e | e
        · exact k1 y e
        · simp at e; subst e; exact ⟨by omega, hu⟩
      · simp at k2 ⊢; omega
    · rintro acc B ⟨cs, rfl, k1, k2⟩
      simp at k2
      simp [blt_sset_ints (ns := cs) (by omega)]
      have s1 := once_lt (l := cs)
      have s2 : ∀ x ∈ sortI (onceI cs), 0 ≤ x ∧ x < 3 + v := fun x hx => k1 x (onceI_iff.mp (sortI_mem.mp hx))
      have s3 : (sortI (onceI cs)).length ≤ 3 := by rw [sortI_len]; have := onceI_len (l := cs); omega
      generalize sortI (onceI cs) = co at s1 s2 s3
      refine W_forL (I := fun r σ B => ∃ (gs : List (Nat × Int × Bool)) (rest : List Int) (s3 s5 : Sl), co = (gs.map fun g => (g.1 : Int)) ++ rest ∧ r = rest.map .int ∧ M5 gs ∧ σ = [.bag, .val (.int (3 + v)), .val (.tuple (hs.map .int)), s3, .val (.list (co.map .int)), s5, .val (.tuple (gs.map encGt)), .emp, .emp]) ?_ ?_ _ _ _ ⟨[], co, .emp, .emp, by simp, rfl, (show M5 [] from fun g hg => by cases hg), by simp⟩
      · rintro d r σ B ⟨gs, rest, t3, t5, e1, e2, e3, rfl⟩
        cases rest with
        | nil => simp at e2
        | cons c rest =>
          simp only [List.map_cons, List.cons.injEq] at e2
          obtain ⟨rfl, rfl⟩ := e2
          have c0 := s2 c (by rw [e1]; simp)
          have lg : gs.length ≤ 3 := by
            have := congrArg List.length e1
            simp at this; omega
          have lg' : gs.length + 1 ≤ sizeLine := by
            have : sizeLine = 16777216 := by decide
            omega
          simp
          refine W_take (n + 1) (by omega) fun a ha => ?_
          simp
          refine W_take (n + 1) (by omega) fun b hb => ?_
          simp [lg']
          refine ⟨gs ++ [(c.toNat, 1 + (a : Int), decide ((b : Int) = 0))], rest, ?_, rfl, ?_, ?_⟩
          · rw [e1]
            simp
            omega
          · intro g hg
            rcases List.mem_append.mp hg with e | e
            · exact e3 g e
            · simp at e; subst e; simp; omega
          · simp [encGt]
            omega
      · rintro σ B ⟨gs, rest, t3, t5, e1, e2, e3, rfl⟩
        have : rest = [] := by simpa using e2.symm
        subst this
        simp at e1
        have o : ∀ a b : Nat, a ≤ b → b < hs.length → Ld.Drawn ⟨hs, gs, a, b⟩ := by
          intro a b hab hb
          refine { l3 := by show 3 ≤ hs.length; omega, l8 := by show hs.length ≤ 8; omega, h := h1, g3 := ?_, g := ?_, a := ?_, r := hab, r1 := hb, l7 := by show hs.length ≤ 7; omega, m5 := fun g hg => (e3 g hg).2 }
          · show gs.length ≤ 3
            have := congrArg List.length e1
            simp at this; omega
          · intro g hg
            have k := s2 (g.1 : Int) (by rw [e1]; exact List.mem_map.mpr ⟨g, hg, rfl⟩)
            have k2 := e3 g hg
            refine ⟨?_, k2.1, by omega⟩
            show g.1 < hs.length
            omega
          · exact asc_of (by rw [← e1]; exact s1)
        simp
        refine W_take (n + 1) (by omega) fun z hz => ?_
        by_cases hz0 : z = 0
        · simp [hz0]
          refine W_take (n + 1) (by omega) fun a ha => ?_
          simp
          refine W_take (n + 1) (by omega) fun b hb => ?_
          have := q ⟨hs, gs, a, a + b⟩ B.tail.tail.tail (o a (a + b) (by omega) (by omega))
          simpa [encLd] using this
        · simp [hz0]
          have := q ⟨hs, gs, 0, 2 + v⟩ B.tail (o 0 (2 + v) (by omega) (by omega))
          simp [encLd] at this
          have e9 : (3 : Int) + v - 1 = 2 + v := by omega
          rw [e9]
          exact this
end PD
set_option linter.all false
set_option maxRecDepth 100000
set_option maxHeartbeats 1000000
/-! Drawn scripts; the bag. -/
set_option exponentiation.threshold 1000000
namespace PD
open PySem PySem.Spec PyProof.Rows L2
inductive St where
  | wait (c : Nat) (l : Int)
  | opn (g : Nat)
  | shut (g : Nat)
def encSt : St → D
  | .wait c l => .tuple [.str "wait", .int c, .int l]
  | .opn g => .tuple [.str "open", .int g]
  | .shut g => .tuple [.str "shut", .int g]
def St.Ok (L : Ld) : St → Prop
  | .wait c l => c < L.hs.length ∧ 0 ≤ l ∧ l ≤ 20
  | .opn g => g < L.gs.length
  | .shut g => g < L.gs.length
def StsOk (L : Ld) (ss : List St) : Prop := ∀ s ∈ ss, s.Ok L
def encSc (ss : List St) : D := .tuple (ss.map encSt)
theorem sizeLine_val : sizeLine = 16777216 := by decide
theorem W_law_script (n : Nat) (L : Ld) (o : L.Ok) (m : Nat) (hm : m < 100) {B : Bg} {Q : D → Bg → Prop} (q : ∀ ss B', ss.length ≤ m → StsOk L ss → Q (encSc ss) B') : W (callB P0 (n + 2) 21 [encLd L, .int m] B) Q := by
  rw [run__law_script, W_endD]
  have e0 : itemD (encLd L) (.int 0) = some (.tuple (L.hs.map .int)) := item_t0
  have e1 : itemD (encLd L) (.int 1) = some (.tuple (L.gs.map encGt)) := item_t1
  have hq : eqD (.tuple (L.gs.map encGt)) (.tuple []) = some (L.gs.isEmpty) := by
    have h1 : cleans (L.gs.map encGt) = true := by
      rw [cleans_iff]
      intro d hd
      obtain ⟨g, _, rfl⟩ := List.mem_map.mp hd
      simp [encGt]
    have h2 : PyData.depthAll (L.gs.map encGt) ≤ 63 := depth_sub fun d hd => by
      obtain ⟨g, _, rfl⟩ := List.mem_map.mp hd
      simp only [encGt, PyData.depth, PyData.depthAll]
      omega
    rw [eq_nilT h1 h2]
    simp
  have l3 := o.l3
  simp [L__law_script]
  refine W_take n (by omega) fun w hw => ?_
  simp [rngOk_n (show w < 1000 by omega)]
  refine W_forL (I := fun r σ B => ∃ (ss : List St) (s4 s5 s6 : Sl), ss.length + r.length = w ∧ StsOk L ss ∧ σ = [.bag, .val (encLd L), .val (.int m), .val (.tuple (ss.map encSt)), s4, s5, s6]) ?_ ?_ _ _ _ ⟨[], .emp, .emp, .emp, by simp, (show StsOk L [] from fun g hg => by cases hg), by simp⟩
  · rintro d r σ B ⟨ss, s4, s5, s6, h1, h2, rfl⟩
    simp at h1
    have lg : ss.length + 1 ≤ sizeLine := by rw [sizeLine_val]; omega
    have add : ∀ {s : St}, s.Ok L → StsOk L (ss ++ [s]) := fun hs g hg => by
      rcases List.mem_append.mp hg with e | e
      · exact h2 g e
      · rw [List.mem_singleton.mp e]; exact hs
    simp
    refine W_take n (by omega) fun way hway => ?_
    by_cases hway2 : way < 2
    · simp [show (way : Int) < 2 by omega, e0]
      refine W_take n (by omega) fun c hc => ?_
      have hc : c < L.hs.length := by omega
      have hi : itemD (.tuple (L.hs.map PyData.int)) (.int c) = some (.int L.hs[c]) := item_tn (by simp [hc])
      simp [e0, hi]
      refine W_take n (by omega) fun u hu => ?_
      simp [lg]
      have hh := o.h _ (List.getElem_mem hc)
      exact ⟨ss ++ [.wait c (L.hs[c] + u)], by simp; omega, add (s := .wait c (L.hs[c] + u)) (show c < _ ∧ 0 ≤ _ ∧ _ ≤ (20 : Int) from ⟨hc, by omega, by omega⟩), by simp [encSt]⟩
    · cases ne : L.gs.isEmpty with
      | true =>
        simp [show ¬ (way : Int) < 2 by omega, e1, hq, ne, e0]
        refine W_take n (by omega) fun c hc => ?_
        have hc : c < L.hs.length := by omega
        have hi : itemD (.tuple (L.hs.map PyData.int)) (.int c) = some (.int L.hs[c]) := item_tn (by simp [hc])
        simp [e0, hi]
        refine W_take n (by omega) fun u hu => ?_
        simp [lg]
        have hh := o.h _ (List.getElem_mem hc)
        exact ⟨ss ++ [.wait c (L.hs[c] + u)], by simp; omega, add (s := .wait c (L.hs[c] + u)) (show c < _ ∧ 0 ≤ _ ∧ _ ≤ (20 : Int) from ⟨hc, by omega, by omega⟩), by simp [encSt]⟩
      | false =>
        have hgl : 0 < L.gs.length := by
          cases hg : L.gs with
          | nil => rw [hg] at ne; cases ne
          | cons _ _ => simp
        by_cases hw2 : way = 2
        · simp [e1, hq, ne, hw2]
          refine W_take n (by omega) fun g hg => ?_
          simp [lg]
          exact ⟨ss ++ [.opn g], by simp; omega, add (s := .opn g) (show g < _ by omega), by simp [encSt]⟩
        · simp [show ¬ (way : Int) < 2 by omega, show ¬ (way : Int) = 2 by omega, e1, hq, ne, hw2]
          refine W_take n (by omega) fun g hg => ?_
          simp [lg]
          exact ⟨ss ++ [.shut g], by simp; omega, add (s := .shut g) (show g < _ by omega), by simp [encSt]⟩
  · rintro σ B ⟨ss, s4, s5, s6, h1, h2, rfl⟩
    simp at h1
    simp
    exact q ss B (by omega) h2
/-! ### the bag -/
theorem smallLog_of {i j : Int} (hi : i.natAbs < 2 ^ 400000) (hj : j.natAbs < 2 ^ 400000) : smallLog i j = true := by
  have h : ∀ {k : Int}, k.natAbs < 2 ^ 400000 → k.natAbs.log2 < 400000 := by
    intro k hk
    by_cases h0 : k.natAbs = 0
    · rw [h0]; decide
    · exact (Nat.log2_lt h0).mpr hk
  have h1 := h hi
  have h2 := h hj
  unfold smallLog
  rw [Nat.blt_eq]
  omega
theorem small64 {i j : Int} (hi : i.natAbs < 2 ^ 64) (hj : j.natAbs < 2 ^ 64) : smallLog i j = true := by
  have h : (2 : Nat) ^ 64 ≤ 2 ^ 400000 := Nat.pow_le_pow_right (by omega) (by omega)
  exact smallLog_of (Nat.lt_of_lt_of_le hi h) (Nat.lt_of_lt_of_le hj h)
theorem v_law_cell (n : Nat) (ns : List Int) (k : Nat) (hk : k < 1000) (hl : ns.length < 1000) : ∃ c : Int, callP P0 (n + 1) 14 [.list (ns.map .int), .int k] = .ok (.int c) := by
  have hs : smallLog 7919 k = true := small64 (by decide) (by omega)
  by_cases h : k < ns.length
  · refine ⟨ns[k], ?_⟩
    rw [run__law_cell]
    apply fin_ok
    have hi : itemD (.list (ns.map PyData.int)) (.int k) = some (.int ns[k]) := item_ln (by simp [h])
    simp [L__law_cell, h, hi]
  · by_cases h0 : ns.length = 0
    · refine ⟨7919 * k + 101, ?_⟩
      rw [run__law_cell]
      apply fin_ok
      simp [L__law_cell, h, h0, hs, show ¬ ((k : Int) < 0) by omega]
    · have hp : 0 < ns.length := by omega
      have hj : k % ns.length < ns.length := Nat.mod_lt _ hp
      refine ⟨ns[k % ns.length] % 1000003 + 7919 * k, ?_⟩
      rw [run__law_cell]
      apply fin_ok
      have hi : itemD (.list (ns.map PyData.int)) (.int ((k : Int) % (ns.length : Int))) = some (.int ns[k % ns.length]) := by
        have : ((k : Int) % (ns.length : Int)) = ((k % ns.length : Nat) : Int) := by simp
        rw [this]
        exact item_ln (by simp [hj])
      simp [L__law_cell, h, h0, hs, hp, hi]
def primesL : List Int := [2147483647, 2147483629, 2147483587, 2147483579, 2147483563, 2147483549, 2147483543, 2147483497]
def primesD : List D := [.int 2147483647, .int 2147483629, .int 2147483587, .int 2147483579, .int 2147483563, .int 2147483549, .int 2147483543, .int 2147483497]
theorem prime_at {z : Int} {i : Nat} (e : z = (i % 8 : Nat)) : ∃ p : Int, itemD (.tuple primesD) (.int z) = some (.int p) ∧ 0 < p ∧ p < 2147483648 := by
  subst e
  have h : i % 8 < primesL.length := Nat.mod_lt _ (by decide)
  refine ⟨primesL[i % 8], item_tn (xs := primesL.map .int) (by simp [h]), ?_⟩
  have : ∀ p ∈ primesL, 0 < p ∧ p < 2147483648 := by decide
  exact this _ (List.getElem_mem h)
theorem nb {i j : Int} {a b : Nat} (hi : i.natAbs < a) (hj : j.natAbs < b) : (i * j).natAbs < a * b := by
  rw [Int.natAbs_mul]
  exact Nat.mul_lt_mul'' hi hj
theorem sl {i j : Int} {a b : Nat} (hi : i.natAbs < a) (hj : j.natAbs < b) (ha : a ≤ 2 ^ 64 := by decide) (hb : b ≤ 2 ^ 64 := by decide) : smallLog i j = true := small64 (Nat.lt_of_lt_of_le hi ha) (Nat.lt_of_lt_of_le hj hb)
theorem v_law_draws (n : Nat) (ns : List Int) (k m b : Nat) (hk : k < 1000) (hl : ns.length < 1000) (hm : m < 1000) (hb : 0 < b) (hb2 : b < 1000000) : ∃ xs : List Int, callP P0 (n + 2) 15 [.list (ns.map .int), .int k, .int m, .int b] = .ok (.list (xs.map .int)) := by
  obtain ⟨c, hc⟩ := v_law_cell n ns k hk hl
  suffices h : W (evSs (tab P0 (n + 1)) L__law_draws [.val (.list (ns.map .int)), .val (.int k), .val (.int m), .val (.int b), .emp, .emp, .emp, .emp, .emp, .emp] []) fun f _ => ∃ xs : List Int, f = .rt (.list (xs.map .int)) by
    obtain ⟨f, B, e, xs, rfl⟩ := h
    refine ⟨xs, ?_⟩
    rw [run__law_draws, e]; rfl
  have bl : b.log2 < 9000 := by
    by_cases h0 : b = 0
    · omega
    · exact Nat.lt_of_lt_of_le ((Nat.log2_lt h0).mpr (show b < 2 ^ 20 by omega)) (by omega)
  have main : ∀ r : Int, W (forL (fturn (tab P0 (n + 1)) (.nm 8) (.cons (.asg (.nm 9) (.bin .mul (.bin .mod (.var 5) (.ix (.var 4) (.bin .mod (.var 8) (.con (.int 8))))) (.bin .add (.con (.int 48271)) (.bin .mul (.bin .mul (.con (.int 2)) (.var 8)) (.var 8))))) (.cons (.asg (.nm 9) (.bin .add (.bin .add (.var 9) (.bin .mul (.bin .mul (.con (.int 7919)) (.bin .add (.var 8) (.con (.int 1)))) (.bin .add (.var 8) (.con (.int 1))))) (.bin .mul (.con (.int 104729)) (.var 1)))) (.cons (.asg (.nm 9) (.bin .mod (.var 9) (.ix (.var 4) (.bin .mod (.bin .add (.bin .mul (.con (.int 3)) (.var 8)) (.var 1)) (.con (.int 8)))))) (.cons (.asg (.nm 9) (.bin .mod (.bin .mul (.bin .mul (.var 9) (.var 9)) (.var 9)) (.ix (.var 4) (.bin .mod (.bin .add (.var 8) (.con (.int 5))) (.con (.int 8)))))) (.cons (.ife (.cmp .gt (.var 6) (.con (.int 0))) (.cons (.asg (.nm 9) (.var 6)) .nil) .nil) (.cons (.app 7 (.bin .mod (.var 9) (.var 3))) (.cons (.asg (.nm 6) (.bin .fdiv (.var 6) (.var 3))) .nil)))))))) ((List.range m).map fun (j : Nat) => PyData.int (j : Int))
      [.val (.list (ns.map .int)), .val (.int k), .val (.int m), .val (.int b), .val (.tuple primesD), .val (.int c), .val (.int r), .own [], .emp, .emp] []) fun f B => Wf f (fun σ => W (evSs (tab P0 (n + 1)) (.cons (.retO 7) .nil) σ B) fun f _ => ∃ xs : List Int, f = .rt (.list (xs.map .int))) (fun d => ∃ xs : List Int, Fl.rt d = .rt (.list (xs.map .int))) := by
    intro r
    refine W_forL (I := fun rest σ B => ∃ (xs : List Int) (js : List Nat) (r : Int) (s8 s9 : Sl), rest = js.map (fun (j : Nat) => PyData.int (j : Int)) ∧ (∀ j ∈ js, j < m) ∧ xs.length + js.length = m ∧ σ = [.val (.list (ns.map .int)), .val (.int k), .val (.int m), .val (.int b), .val (.tuple primesD), .val (.int c), .val (.int r), .own (xs.map .int), s8, s9]) ?_ ?_ _ _ _ ⟨[], List.range m, r, .emp, .emp, rfl, by simp, by simp, by simp⟩
    · rintro d rest σ B ⟨xs, js, r, s8, s9, e1, h1, h2, rfl⟩
      cases js with
      | nil => simp at e1
      | cons j js =>
        simp only [List.map_cons, List.cons.injEq] at e1
        obtain ⟨rfl, rfl⟩ := e1
        have hj := h1 j (by simp)
        have j1 : (j : Int).natAbs < 1000 := by omega
        obtain ⟨p, i1, p1, p2⟩ := prime_at (z := (j : Int) % 8) (i := j) (by omega)
        obtain ⟨p', i2, p1', p2'⟩ := prime_at (z := (3 * (j : Int) + k) % 8) (i := 3 * j + k) (by omega)
        obtain ⟨p'', i3, p1'', p2''⟩ := prime_at (z := ((j : Int) + 5) % 8) (i := j + 5) (by omega)
        have q1 := Int.emod_nonneg c (show p ≠ 0 by omega)
        have q2 := Int.emod_lt_of_pos c p1
        have m1 : (2 * (j : Int)).natAbs < 2000 := by omega
        have m2 := nb m1 j1
        have m3 : (48271 + 2 * (j : Int) * j).natAbs < 2500000 := by omega
        have m4 : (7919 * ((j : Int) + 1)).natAbs < 8000000 := by omega
        have s1 : smallLog 2 (j : Int) = true := sl (a := 3) (by decide) j1
        have s2 : smallLog (2 * (j : Int)) j = true := sl m1 j1
        have s3 : smallLog (c % p) (48271 + 2 * (j : Int) * j) = true := sl (a := 2147483648) (by omega) m3
        have s4 : smallLog 7919 ((j : Int) + 1) = true := sl (a := 8000) (b := 2000) (by decide) (by omega)
        have s5 : smallLog (7919 * ((j : Int) + 1)) ((j : Int) + 1) = true := sl (b := 2000) m4 (by omega)
        have s6 : smallLog 104729 (k : Int) = true := sl (a := 200000) (b := 2000) (by decide) (by omega)
        have s7 : smallLog 3 (j : Int) = true := sl (a := 4) (by decide) j1
        have y1 : ∀ y : Int, (y % p').natAbs < 2147483648 := fun y => by
          have k1 := Int.emod_nonneg y (show p' ≠ 0 by omega)
          have k2 := Int.emod_lt_of_pos y p1'
          omega
        have s8 : ∀ y : Int, smallLog (y % p') (y % p') = true := fun y => sl (y1 y) (y1 y)
        have s9 : ∀ y : Int, smallLog (y % p' * (y % p')) (y % p') = true := fun y => sl (nb (y1 y) (y1 y)) (y1 y)
        have xl : xs.length < sizeLine := by rw [sizeLine_val]; simp at h2; omega
        have b0 : (0 : Int) < b := by omega
        by_cases hr : 0 < r
        · simp [i1, i2, i3, p1, p1', p1'', s1, s2, s3, s4, s5, s6, s7, s8, s9, hr, hb, bl, xl]
          exact ⟨xs ++ [r % b], js, rfl, fun j hj => h1 j (by simp [hj]), by simp at h2 ⊢; omega, by simp⟩
        · simp [i1, i2, i3, p1, p1', p1'', s1, s2, s3, s4, s5, s6, s7, s8, s9, hr, hb, bl, xl]
          exact ⟨xs ++ [_], js, rfl, fun j hj => h1 j (by simp [hj]), by simp at h2 ⊢; omega, by rw [List.map_append]; rfl⟩
    · rintro σ B ⟨xs, js, r, s8, s9, e1, h1, h2, rfl⟩
      simp
      exact ⟨xs, rfl⟩
  have e18 : smallLog 10 18 = true := by decide
  rw [L__law_draws]
  by_cases hcc : (1000000000000000000 : Int) ≤ c
  · simp [hc, hcc, freeAt, rngOk_n hm]
    exact main c
  · simp [hc, hcc, freeAt, rngOk_n hm]
    exact main 0
theorem v_law_bag (n : Nat) (ns : List Int) (k : Nat) (hk : k < 1000) (hl : ns.length < 1000) : ∃ xs : List Int, callP P0 (n + 3) 16 [.list (ns.map .int), .int k] = .ok (.list (xs.map .int)) := by
  obtain ⟨xs, h⟩ := v_law_draws n ns k 150 27720 hk hl (by omega) (by omega) (by omega)
  refine ⟨xs, ?_⟩
  rw [run__law_bag]
  apply fin_ok
  have h : callP P0 (n + 2) 15 [.list (ns.map .int), .int k, .int 150, .int 27720] = .ok (.list (xs.map .int)) := h
  simp [L__law_bag, h]
end PD
set_option linter.all false
set_option maxRecDepth 100000
set_option maxHeartbeats 1000000
set_option exponentiation.threshold 1000000
/-! Fractions in lowest terms, as the law makes them; errors named. -/
namespace PD
open PySem PySem.Spec PyProof.Rows L2
theorem v_law_lowest (n : Nat) (a b : Int) (hb : b ≠ 0) (hs : a.natAbs.log2 + b.natAbs.log2 < 8000) : callP P0 (n + 1) 19 [.int a, .int b] = .ok (.tuple [.int ((if 0 < b then a else -a) / (gcdN a b : Int)), .int ((if 0 < b then b else -b) / (gcdN a b : Int))]) := by
  rw [run__law_lowest]
  apply fin_ok
  have e : ∀ c : Int, (if c < 0 then -c else c) = (c.natAbs : Int) := by intro c; split <;> omega
  have gp : 0 < gcdN a b := Nat.gcd_pos_of_pos_right _ (by omega)
  have gl : (gcdN a b).log2 < 9000 := by
    have h1 : gcdN a b ≤ b.natAbs := Nat.le_of_dvd (by omega) (Nat.gcd_dvd_right _ _)
    have h2 : (gcdN a b).log2 ≤ b.natAbs.log2 := (Nat.le_log2 (by omega)).mpr (Nat.le_trans (Nat.log2_self_le (by omega)) h1)
    omega
  have sm : ∀ s c : Int, s.natAbs = 1 → c.natAbs.log2 < 8000 → smallLog s c = true := by
    intro s c h1 h2
    unfold smallLog
    rw [Nat.blt_eq, h1]
    have : Nat.log2 1 = 0 := by decide
    omega
  have s1 := sm 1 a rfl (by omega)
  have s2 := sm 1 b rfl (by omega)
  have s3 := sm (-1) a rfl (by omega)
  have s4 := sm (-1) b rfl (by omega)
  simp only [L__law_lowest, W_scons, W_par, W_blt, W_var, getV_val, getV_s, Wo_some, blt_abs, List.set_cons_zero, List.set_cons_succ, Wf_nx, W_whil, e]
  refine W_whileL (fun m σ B => ∃ x y : Nat, σ = [.val (.int a), .val (.int b), .val (.int x), .val (.int y), .emp] ∧ Nat.gcd x y = gcdN a b ∧ m = lg x + lg y + if x < y then 1 else 0) ?_ _ (lg a.natAbs + lg b.natAbs + if a.natAbs < b.natAbs then 1 else 0) _ _ ?_ ⟨_, _, rfl, rfl, rfl⟩
  · rintro m σ B ⟨x, y, rfl, hg, rfl⟩
    by_cases hy : y = 0
    · subst hy
      have : x = gcdN a b := by simpa using hg
      subst this
      by_cases hb0 : 0 < b
      · simp [hb0, gp, gl, s1, s2]
      · simp [hb0, gp, gl, s3, s4]
    · simp [hy, Nat.pos_of_ne_zero hy]
      refine ⟨_, ?_, y, x % y, ⟨rfl, by simp⟩, by rw [Nat.gcd_comm, ← Nat.gcd_rec, Nat.gcd_comm]; exact hg, rfl⟩
      have h1 := Nat.mod_lt x (show y > 0 by omega)
      by_cases hxy : x < y
      · rw [Nat.mod_eq_of_lt hxy]
        simp [hxy, show ¬ y < x by omega]
        omega
      · have := lg_half (mod_half (show y ≤ x by omega) (by omega)) (show x ≠ 0 by omega)
        simp [hxy, show ¬ y < x % y by omega]
        omega
  · show _ < 1000000
    unfold lg
    split <;> split <;> split <;> omega
/-! ### errors by their names -/
theorem Wn_ok {Γ : Tab} {x : M D} {d : D} {B : Bg} {Q : Str → Prop} (h : x = .ok (d, B)) : Wn Γ x Q ↔ Q Str.empty := by
  subst h; simp [Wn]
theorem Wn_err {Γ : Tab} {x : M D} {c : Nat} {s : Str} {Q : Str → Prop} (h : x = .err c) (hs : Γ.en c = some s) : Wn Γ x Q ↔ Q s := by
  subst h; simp [Wn, hs]
theorem en_1 : enOf ens0 1 = some ("land value" : Str) := by decide +kernel
theorem en_2 : enOf ens0 2 = some ("script value" : Str) := by decide +kernel
theorem en_3 : enOf ens0 3 = some ("amount value" : Str) := by decide +kernel
theorem en_4 : enOf ens0 4 = some ("number value" : Str) := by decide +kernel
theorem en_5 : enOf ens0 5 = some ("facts value" : Str) := by decide +kernel
theorem en_6 : enOf ens0 6 = some ("text value" : Str) := by decide +kernel
@[simp] theorem tab_en (n c : Nat) : (tab P0 n).en c = enOf ens0 c := rfl
theorem ev_call_err {Γ : Tab} {f : Nat} {es : MEs} {σ : SEnv} {B : Bg} {ds : List D} {B' : Bg} {c : Nat} (h : evs Γ es σ B = .ok (ds, B')) (h2 : Γ.call f ds = .err c) : ev Γ (.call f es) σ B = .err c := by
  rw [ev, h]
  simp [M.bind, h2, R.bind]
theorem ev_call_ok {Γ : Tab} {f : Nat} {es : MEs} {σ : SEnv} {B : Bg} {ds : List D} {B' : Bg} {d : D} (h : evs Γ es σ B = .ok (ds, B')) (h2 : Γ.call f ds = .ok d) : ev Γ (.call f es) σ B = .ok (d, B') := by
  rw [ev, h]
  simp [M.bind, h2, R.bind]
theorem noBag_nilS : noBag [] = [] := rfl
theorem noBag_bagS {σ : SEnv} : noBag (.bag :: σ) = .emp :: noBag σ := rfl
theorem noBag_valS {d : D} {σ : SEnv} : noBag (.val d :: σ) = .val d :: noBag σ := rfl
theorem noBag_ownS {d : List D} {σ : SEnv} : noBag (.own d :: σ) = .own d :: noBag σ := rfl
theorem noBag_empS {σ : SEnv} : noBag (.emp :: σ) = .emp :: noBag σ := rfl
theorem evs_nil {Γ : Tab} {σ : SEnv} {B : Bg} : evs Γ .nil σ B = .ok ([], B) := by rw [evs]
theorem evs_var {Γ : Tab} {i : Nat} {r : MEs} {σ : SEnv} {B B' : Bg} {d : D} {ds : List D} (h : getV σ i = some d) (hr : evs Γ r σ B = .ok (ds, B')) : evs Γ (.cons (.var i) r) σ B = .ok (d :: ds, B') := by
  rw [evs, ev, h]
  simp [ofO, M.bind, hr]
theorem evs_con {Γ : Tab} {c : D} {r : MEs} {σ : SEnv} {B B' : Bg} {ds : List D} (hr : evs Γ r σ B = .ok (ds, B')) : evs Γ (.cons (.con c) r) σ B = .ok (c :: ds, B') := by
  rw [evs, ev]
  simp [M.bind, hr]
theorem evs_tupnil {Γ : Tab} {r : MEs} {σ : SEnv} {B B' : Bg} {ds : List D} (hr : evs Γ r σ B = .ok (ds, B')) : evs Γ (.cons (.tup .nil) r) σ B = .ok (.tuple [] :: ds, B') := by
  rw [evs, ev, evs]
  simp [M.bind, hr]
/-! ### lists of ints compared -/
theorem shaped_ints' {ns : List Int} : SeqAt.shaped (.list (ns.map .int)) = true := shaped_of (by rw [clean_lst]; exact clean_ints) (by
  rw [PyData.depth]
  have := depth_sub (xs := ns.map .int) (m := 0) fun x hx => by
    obtain ⟨i, _, rfl⟩ := List.mem_map.mp hx
    simp [PyData.depth]
  omega)
theorem eqv_ints : ∀ {a b : List Int}, PyData.eqvAll (a.map .int) (b.map .int) = decide (a = b)
  | [], [] => by simp [PyData.eqvAll]
  | [], _ :: _ => by simp [PyData.eqvAll]
  | _ :: _, [] => by simp [PyData.eqvAll]
  | x :: a, y :: b => by
    simp only [List.map_cons, PyData.eqvAll, eqv_ints (a := a) (b := b), PyData.eqv]
    by_cases h1 : x = y <;> by_cases h2 : a = b <;> simp [h1, h2]
theorem eq_ints {a b : List Int} : eqD (.list (a.map .int)) (.list (b.map .int)) = some (decide (a = b)) := by
  rw [eqD_of shaped_ints' shaped_ints', PyData.eqv, eqv_ints]
end PD
set_option linter.all false
set_option maxRecDepth 100000
set_option maxHeartbeats 1000000
/-! Texts split and joined. -/
namespace PD
open PySem PySem.Spec PyProof.Rows L2
abbrev tl (x : Str) : List Nat := x.cps.toList
theorem str_ext {a b : Str} (h : tl a = tl b) : a = b := Str.ext' (Array.toList_inj.mp h)
def J (c : Nat) : List (List Nat) → List Nat
  | [] => []
  | [p] => p
  | p :: q :: r => p ++ c :: J c (q :: r)
theorem tl_append (a b : Str) : tl (a ++ b) = tl a ++ tl b := by simp [tl, Str.cps_append]
theorem tl_join (c : Nat) : ∀ ps : List Str, tl (Str.join ⟨#[c]⟩ ps) = J c (ps.map tl)
  | [] => rfl
  | [p] => rfl
  | p :: q :: r => by
    rw [Str.join, tl_append, tl_append, tl_join c (q :: r)]
    · simp [J, tl]
    · simp
theorem join_eq (s : Str) (ps : List Str) : Txt.join s ps = Str.join s ps := StrLaws.glued_eq_join s ps
theorem tw_free {c : Nat} : ∀ {p rest : List Nat}, c ∉ p → (rest = [] ∨ ∃ r, rest = c :: r) → (p ++ rest).takeWhile (· != c) = p ∧ (p ++ rest).dropWhile (· != c) = rest
  | [], rest, _, h => by
    rcases h with rfl | ⟨r, rfl⟩ <;> simp
  | x :: p, rest, hp, h => by
    simp only [List.mem_cons, not_or] at hp
    have hx : (x != c) = true := by simpa using fun e : x = c => hp.1 e.symm
    obtain ⟨h1, h2⟩ := tw_free hp.2 h
    simp [List.takeWhile_cons, List.dropWhile_cons, hx, h1, h2]
theorem J_inj {c : Nat} : ∀ {ps qs : List (List Nat)}, ps ≠ [] → qs ≠ [] → (∀ p ∈ ps, c ∉ p) → (∀ p ∈ qs, c ∉ p) → J c ps = J c qs → ps = qs
  | [], _, h, _, _, _, _ => absurd rfl h
  | _, [], _, h, _, _, _ => absurd rfl h
  | p :: ps, q :: qs, _, _, h1, h2, e => by
    have form : ∀ (p : List Nat) (ps : List (List Nat)), ∃ rest, J c (p :: ps) = p ++ rest ∧ ((rest = [] ∧ ps = []) ∨ (∃ r, rest = c :: r ∧ ps ≠ [] ∧ r = J c ps)) := by
      intro p ps
      cases ps with
      | nil => exact ⟨[], by simp [J], .inl ⟨rfl, rfl⟩⟩
      | cons x r => exact ⟨c :: J c (x :: r), rfl, .inr ⟨_, rfl, by simp, rfl⟩⟩
    obtain ⟨r1, e1, f1⟩ := form p ps
    obtain ⟨r2, e2, f2⟩ := form q qs
    have g1 := tw_free (rest := r1) (h1 p (by simp)) (f1.elim (fun h => .inl h.1) fun ⟨r, h, _⟩ => .inr ⟨r, h⟩)
    have g2 := tw_free (rest := r2) (h2 q (by simp)) (f2.elim (fun h => .inl h.1) fun ⟨r, h, _⟩ => .inr ⟨r, h⟩)
    rw [e1, e2] at e
    have ep : p = q := by rw [← g1.1, ← g2.1, e]
    have er : r1 = r2 := by rw [← g1.2, ← g2.2, e]
    subst ep er
    rcases f1 with ⟨a, rfl⟩ | ⟨r, a, b, rfl⟩
    · rcases f2 with ⟨_, rfl⟩ | ⟨r', a', _⟩
      · rfl
      · rw [a] at a'; cases a'
    · rcases f2 with ⟨a', _⟩ | ⟨r', a', b', e'⟩
      · rw [a] at a'; cases a'
      · rw [a] at a'
        cases a'
        rw [J_inj b b' (fun p hp => h1 p (by simp [hp])) (fun p hp => h2 p (by simp [hp])) e']
theorem split_ne (x y : Str) : Txt.split x y ≠ [] := by
  unfold Txt.split
  split
  · simp
  · split
    · simp
    · rw [StrLaws.partsBetween_eq]
      obtain ⟨p, r, h⟩ := StrLaws.partsFrom_ne x y.length 0 (Builtin.Str.occurrences x y 0 x.length (x.length + 1))
      rw [h]; simp
theorem split_one {c : Nat} {ps : List Str} (hne : ps ≠ []) (hf : ∀ p ∈ ps, c ∉ tl p) : Txt.split (Str.join ⟨#[c]⟩ ps) ⟨#[c]⟩ = ps := by
  have h1 := StrLaws.join_split (Str.join ⟨#[c]⟩ ps) ⟨#[c]⟩
  have h2 := StrLaws.split_free (Str.join ⟨#[c]⟩ ps) c
  have e := congrArg tl h1
  rw [tl_join, tl_join] at e
  have := J_inj (by simpa using split_ne _ _) (by simpa using hne) (fun p hp => by
    obtain ⟨q, hq, rfl⟩ := List.mem_map.mp hp
    exact h2 q hq) (fun p hp => by
    obtain ⟨q, hq, rfl⟩ := List.mem_map.mp hp
    exact hf q hq) e
  exact (List.map_inj_right fun a b h => str_ext h).mp this
theorem join_len (s : Str) : ∀ ps : List Str, (Str.join s ps).length ≤ (ps.map (·.length)).sum + ps.length * s.length
  | [] => by simp [Str.join, Str.length, Str.empty]
  | [p] => by simp [Str.join]
  | p :: q :: r => by
    have := join_len s (q :: r)
    rw [Str.join, Str.length_append, Str.length_append]
    · simp only [List.map_cons, List.sum_cons, List.length_cons] at this ⊢
      rw [Nat.add_mul] at this
      rw [Nat.add_mul, Nat.add_mul]
      omega
    · simp
theorem parts_len {c : Nat} : ∀ (ps : List Str), ps ≠ [] → ps.length ≤ (Str.join ⟨#[c]⟩ ps).length + 1
  | [], h => absurd rfl h
  | [p], _ => by simp
  | p :: q :: r, _ => by
    have := parts_len (c := c) (q :: r) (by simp)
    rw [Str.join, Str.length_append, Str.length_append]
    · simp only [List.length_cons] at this ⊢
      have : (⟨#[c]⟩ : Str).length = 1 := rfl
      omega
    · simp
theorem part_le {c : Nat} : ∀ {ps : List Str} {p : Str}, p ∈ ps → p.length ≤ (Str.join ⟨#[c]⟩ ps).length
  | [p], q, h => by rw [List.mem_singleton.mp h]; simp [Str.join]
  | p :: q :: r, x, h => by
    rw [Str.join, Str.length_append, Str.length_append]
    · rcases List.mem_cons.mp h with e | e
      · rw [e]; omega
      · have := part_le (c := c) e
        omega
    · simp
theorem split_len (x : Str) (c : Nat) : (Txt.split x ⟨#[c]⟩).length ≤ x.length + 1 := by
  have := parts_len (c := c) (Txt.split x ⟨#[c]⟩) (split_ne _ _)
  rw [StrLaws.join_split] at this
  exact this
theorem split_le {x p : Str} {c : Nat} (h : p ∈ Txt.split x ⟨#[c]⟩) : p.length ≤ x.length := by
  have := part_le (c := c) h
  rw [StrLaws.join_split] at this
  exact this
/-! ### signs of a text are signs -/
theorem strOk_iff {x : Str} : PyData.strOk x = true ↔ ∀ c ∈ tl x, c < 0x110000 := by
  unfold PyData.strOk
  rw [← Array.all_toList, List.all_eq_true]
  simp
theorem J_mem {c z : Nat} : ∀ {ps : List (List Nat)}, z ∈ J c ps → z = c ∨ ∃ p ∈ ps, z ∈ p
  | [], h => by simp [J] at h
  | [p], h => .inr ⟨p, by simp, by simpa [J] using h⟩
  | p :: q :: r, h => by
    simp only [J, List.mem_append, List.mem_cons] at h
    rcases h with h | h | h
    · exact .inr ⟨p, by simp, h⟩
    · exact .inl h
    · rcases J_mem h with e | ⟨x, hx, e⟩
      · exact .inl e
      · exact .inr ⟨x, by simp [hx], e⟩
theorem mem_J {c z : Nat} : ∀ {ps : List (List Nat)} {p : List Nat}, p ∈ ps → z ∈ p → z ∈ J c ps
  | [p], q, h, hz => by rw [List.mem_singleton.mp h] at hz; simpa [J] using hz
  | p :: q :: r, x, h, hz => by
    simp only [J, List.mem_append, List.mem_cons]
    rcases List.mem_cons.mp h with e | e
    · rw [e] at hz; exact .inl hz
    · exact .inr (.inr (mem_J e hz))
theorem split_ok {x p : Str} {c : Nat} (hx : PyData.strOk x = true) (h : p ∈ Txt.split x ⟨#[c]⟩) : PyData.strOk p = true := by
  rw [strOk_iff] at hx ⊢
  intro z hz
  apply hx
  rw [← StrLaws.join_split x ⟨#[c]⟩, tl_join]
  exact mem_J (List.mem_map.mpr ⟨p, h, rfl⟩) hz
theorem join_ok {c : Nat} (hc : c < 0x110000) {ps : List Str} (h : ∀ p ∈ ps, PyData.strOk p = true) : PyData.strOk (Str.join ⟨#[c]⟩ ps) = true := by
  rw [strOk_iff]
  intro z hz
  rw [tl_join] at hz
  rcases J_mem hz with e | ⟨p, hp, e⟩
  · rw [e]; exact hc
  · obtain ⟨q, hq, rfl⟩ := List.mem_map.mp hp
    exact strOk_iff.mp (h q hq) z e
theorem append_ok {a b : Str} (ha : PyData.strOk a = true) (hb : PyData.strOk b = true) : PyData.strOk (a ++ b) = true := by
  rw [strOk_iff] at *
  intro z hz
  rw [tl_append] at hz
  rcases List.mem_append.mp hz with e | e
  · exact ha z e
  · exact hb z e
end PD
set_option linter.all false
set_option maxRecDepth 100000
set_option maxHeartbeats 1000000
/-! Lands written as texts. -/
namespace PD
open PySem PySem.Spec PyProof.Rows L2
section
variable {Γ : Tab} {σ : SEnv} {B : Bg} {Q : D → Bg → Prop} {e : ME} {es : MEs}
@[simp] theorem W_js : W (ev Γ (.js es) σ B) Q ↔ W (evj Γ es Str.empty σ B) fun x B => Q (.str x) B := by
  simp only [ev, W_bind]
  exact W_iff fun a B => W_ok
@[simp] theorem W_jnil {acc : Str} {Qs : Str → Bg → Prop} : W (evj Γ .nil acc σ B) Qs ↔ Qs acc B := by rw [evj, W_ok]
@[simp] theorem W_jcons {acc : Str} {Qs : Str → Bg → Prop} : W (evj Γ (.cons e es) acc σ B) Qs ↔ W (ev Γ e σ B) fun x B => Ws x fun y => (acc ++ y).length ≤ sizeLine ∧ W (evj Γ es (acc ++ y) σ B) Qs := by
  simp only [evj, W_bind]
  refine W_iff fun x B => ?_
  cases x <;> simp [Ws]
  rename_i y
  by_cases h : (acc ++ y).length ≤ sizeLine <;> simp [h]
theorem W_ltold_ok {d : D} {B' : Bg} (h : ev Γ e (noBag σ) [] = .ok (d, B')) : W (ev Γ (.ltold e) σ B) Q ↔ Q (.tuple [d, .str Str.empty]) B := by
  simp only [ev, h, W_ok]
theorem W_ltold_err {c : Nat} {s : Str} (h : ev Γ e (noBag σ) [] = .err c) (hs : Γ.en c = some s) : W (ev Γ (.ltold e) σ B) Q ↔ Q (.tuple [.none, .str s]) B := by
  simp only [ev, h, hs, Option.map_some, ofO, W_ok]
end
@[simp] theorem bin_addS {x y : Str} : binD .add (.str x) (.str y) = if x.length + y.length ≤ sizeLine then some (.str (x ++ y)) else none := rfl
@[simp] theorem blt_lenS {x : Str} : bltD .len (.str x) = if x.length ≤ sizeLine then some (.int x.length) else none := rfl
theorem strs_map : ∀ {ys : List Str}, strs? (ys.map .str) = some ys
  | [] => rfl
  | y :: ys => by simp only [List.map_cons, strs?, strs_map (ys := ys), Option.map_some]
abbrev sp : Str := ⟨#[32]⟩
abbrev nl : Str := ⟨#[10]⟩
theorem sp_eq : (" " : Str) = sp := by decide +kernel
theorem nl_eq : ("\n" : Str) = nl := by decide +kernel
theorem joinD_map {s : Str} {ys : List Str} (h : (ys.map (·.length)).sum + ys.length * s.length ≤ 16777216) : joinD s (ys.map .str) = some (.str (Str.join s ys)) := by
  simp only [joinD, strs_map, Option.bind_some, h, if_true, join_eq]
/-- a figure -/
def dig (i : Int) : Str := ⟨#[48 + i.toNat]⟩
theorem dig_str {i : Int} (h0 : 0 ≤ i) (h9 : i ≤ 9) : (Str.ofString (toString i)) = dig i := by
  have : i = 0 ∨ i = 1 ∨ i = 2 ∨ i = 3 ∨ i = 4 ∨ i = 5 ∨ i = 6 ∨ i = 7 ∨ i = 8 ∨ i = 9 := by omega
  rcases this with rfl | rfl | rfl | rfl | rfl | rfl | rfl | rfl | rfl | rfl <;> decide +kernel
theorem log_small {i : Int} (h0 : 0 ≤ i) (h9 : i ≤ 9) : i.natAbs.log2 < 1920 := by
  have : i.natAbs < 2 ^ 4 := by omega
  by_cases h : i.natAbs = 0
  · rw [h]; decide
  · exact Nat.lt_trans ((Nat.log2_lt h).mpr this) (by omega)
theorem blt_strD {i : Int} (h0 : 0 ≤ i) (h9 : i ≤ 9) : bltD .str (.int i) = some (.str (dig i)) := by
  simp only [bltD, log_small h0 h9, if_true, dig_str h0 h9]
theorem blt_fmtD {i : Int} (h0 : 0 ≤ i) (h9 : i ≤ 9) : bltD .fmt (.int i) = some (.str (dig i)) := by
  simp only [bltD, log_small h0 h9, if_true, dig_str h0 h9]
@[simp] theorem dig_len {i : Int} : (dig i).length = 1 := rfl
def wLand (hs : List Int) : List Str := "land" :: hs.map dig
def wRain (a b : Nat) : List Str := ["rain", dig a, dig b]
def sw (b : Bool) : Str := if b = true then "shut" else "open"
def wGate (g : Nat × Int × Bool) : List Str := ["gate", dig g.1, dig g.2.1, sw g.2.2]
def wrows (L : Ld) : List (List Str) := wLand L.hs :: wRain L.r0 L.r1 :: L.gs.map wGate
def wlines (L : Ld) : List Str := (wrows L).map (Str.join sp)
def wtext (L : Ld) : Str := Str.join nl (wlines L)
theorem sum_dig : ∀ hs : List Int, ((hs.map dig).map (·.length)).sum = hs.length
  | [] => rfl
  | h :: hs => by
    have := sum_dig hs
    simp only [List.map_cons, List.sum_cons, List.length_cons, dig_len] at this ⊢
    omega
theorem len_land {hs : List Int} (h : hs.length ≤ 8) : (Str.join sp (wLand hs)).length ≤ 21 := by
  have h1 := join_len sp (wLand hs)
  have h2 : ((wLand hs).map (·.length)).sum = 4 + hs.length := by
    rw [wLand, List.map_cons, List.sum_cons, sum_dig]; rfl
  have h3 : (wLand hs).length = 1 + hs.length := by simp [wLand]; omega
  have h4 : sp.length = 1 := rfl
  rw [h2, h3, h4] at h1
  omega
theorem sw_len (b : Bool) : (sw b).length = 4 := by cases b <;> rfl
theorem len_rain {a b : Nat} : (Str.join sp (wRain a b)).length ≤ 9 := by
  have h1 := join_len sp (wRain a b)
  simpa [wRain, show ("rain" : Str).length = 4 from rfl, show sp.length = 1 from rfl] using h1
theorem len_gate {g : Nat × Int × Bool} : (Str.join sp (wGate g)).length ≤ 14 := by
  have h1 := join_len sp (wGate g)
  simpa [wGate, show ("gate" : Str).length = 4 from rfl, show sp.length = 1 from rfl, sw_len] using h1
theorem sum_gates : ∀ gs : List (Nat × Int × Bool), (((gs.map wGate).map (Str.join sp)).map (·.length)).sum ≤ 14 * gs.length
  | [] => by simp
  | g :: gs => by
    have := sum_gates gs
    have := len_gate (g := g)
    simp only [List.map_cons, List.sum_cons, List.length_cons] at *
    omega
theorem lines_sum {L : Ld} (o : L.Ok) : ((wlines L).map (·.length)).sum + (wlines L).length * 1 ≤ 100 := by
  have h1 := len_land o.l8
  have h2 := len_rain (a := L.r0) (b := L.r1)
  have h3 := sum_gates L.gs
  have h4 := o.g3
  simp only [wlines, wrows, List.map_cons, List.sum_cons, List.length_cons, List.length_map] at *
  omega
theorem wtext_len {L : Ld} (o : L.Ok) : (wtext L).length ≤ 100 := by
  have h1 := join_len nl (wlines L)
  have h2 := lines_sum o
  have h4 : nl.length = 1 := rfl
  rw [h4] at h1
  exact Nat.le_trans h1 h2
theorem t_rain : tl ("rain " : Str) = tl ("rain" : Str) ++ [32] := by decide +kernel
theorem t_gate : tl ("gate " : Str) = tl ("gate" : Str) ++ [32] := by decide +kernel
theorem t_shut : tl (" shut" : Str) = 32 :: tl ("shut" : Str) := by decide +kernel
theorem t_open : tl (" open" : Str) = 32 :: tl ("open" : Str) := by decide +kernel
theorem t_sp : tl sp = [32] := rfl
theorem e_rain {a b : Nat} : Str.empty ++ ("rain " : Str) ++ dig a ++ sp ++ dig b = Str.join sp (wRain a b) := by
  apply str_ext
  rw [tl_join]
  simp only [tl_append, t_rain, t_sp, wRain, List.map_cons, List.map_nil, J]
  simp [Str.empty]
theorem e_rain2 {a b : Nat} : ("rain " : Str) ++ dig a ++ sp ++ dig b = Str.join sp (wRain a b) := by
  apply str_ext
  rw [tl_join]
  simp only [tl_append, t_rain, t_sp, wRain, List.map_cons, List.map_nil, J]
  simp
theorem e_gate {g : Nat × Int × Bool} : Str.empty ++ ("gate " : Str) ++ dig g.1 ++ sp ++ dig g.2.1 ++ sp ++ sw g.2.2 = Str.join sp (wGate g) := by
  apply str_ext
  rw [tl_join]
  simp only [tl_append, t_gate, t_sp, wGate, List.map_cons, List.map_nil, J]
  simp [Str.empty]
theorem e_gate2 {g : Nat × Int × Bool} : ("gate " : Str) ++ dig g.1 ++ sp ++ dig g.2.1 ++ (if g.2.2 = true then (" shut" : Str) else " open") = Str.join sp (wGate g) := by
  apply str_ext
  rw [tl_join]
  have : tl (if g.2.2 = true then (" shut" : Str) else " open") = 32 :: tl (sw g.2.2) := by
    cases g.2.2
    · exact t_open
    · exact t_shut
  simp only [tl_append, t_gate, t_sp, wGate, List.map_cons, List.map_nil, J, this]
  simp
theorem le_sz {n : Nat} (h : n ≤ 1000) : n ≤ sizeLine := by rw [sizeLine_val]; omega
theorem v_written (n : Nat) (L : Ld) (o : L.Ok) : callP P0 (n + 1) 176 [encLd L] = .ok (.str (wtext L)) := by
  rw [run_written_k15]
  apply fin_ok
  have e0 : itemD (encLd L) (.int 0) = some (.tuple (L.hs.map .int)) := item_t0
  have e1 : itemD (encLd L) (.int 1) = some (.tuple (L.gs.map encGt)) := item_t1
  have e2 : itemD (encLd L) (.int 2) = some (.tuple [.int L.r0, .int L.r1]) := item_t2
  have hl8 := o.l8
  have hr := o.r
  have hr1 := o.r1
  have hg3 := o.g3
  rw [L_written_k15, sp_eq, nl_eq]
  simp [e0]
  refine W_compM (g := fun i => .str (dig i)) (fun i hi => ?_) ?_
  · have := o.h i hi
    simp [blt_strD this.1 this.2]
  · have em : (PyData.str ("land" : Str) :: L.hs.map fun i => PyData.str (dig i)) = (wLand L.hs).map .str := by simp [wLand]
    have jl : ((wLand L.hs).map (·.length)).sum + (wLand L.hs).length * sp.length ≤ 16777216 := by
      have h2 : ((wLand L.hs).map (·.length)).sum = 4 + L.hs.length := by
        rw [wLand, List.map_cons, List.sum_cons, sum_dig]; rfl
      have h3 : (wLand L.hs).length = 1 + L.hs.length := by simp [wLand]; omega
      have h4 : sp.length = 1 := rfl
      rw [h2, h3, h4]; omega
    have k1 : 1 + L.hs.length ≤ 16777216 := by omega
    have lr : (Str.join sp (wRain L.r0 L.r1)).length ≤ 16777216 := Nat.le_trans len_rain (by omega)
    have f0 : bltD .fmt (.int (L.r0 : Nat)) = some (.str (dig L.r0)) := blt_fmtD (by omega) (by omega)
    have f1 : bltD .fmt (.int (L.r1 : Nat)) = some (.str (dig L.r1)) := blt_fmtD (by omega) (by omega)
    simp [k1, em, joinD_map jl, e1, e2, f0, f1, Str.length_append, freeAt, show sp.length = 1 from rfl, show ("rain " : Str).length = 5 from rfl, show Str.empty.length = 0 from rfl, sizeLine_val, e_rain, lr]
    refine W_forL (I := fun r σ B => ∃ (pre suf : List (Nat × Int × Bool)) (s2 s3 s4 s5 : Sl), L.gs = pre ++ suf ∧ r = suf.map encGt ∧ σ = [.val (encLd L), .own ((Str.join sp (wLand L.hs) :: Str.join sp (wRain L.r0 L.r1) :: (pre.map wGate).map (Str.join sp)).map .str), s2, s3, s4, s5]) ?_ ?_ _ _ _ ⟨[], L.gs, .emp, .emp, .emp, .emp, rfl, rfl, by simp⟩
    · rintro d r σ B ⟨pre, suf, s2, s3, s4, s5, q1, q2, rfl⟩
      cases suf with
      | nil => simp at q2
      | cons g suf =>
        simp only [List.map_cons, List.cons.injEq] at q2
        obtain ⟨rfl, rfl⟩ := q2
        have gg := o.g g (by rw [q1]; simp)
        have f2 : bltD .fmt (.int (g.1 : Nat)) = some (.str (dig g.1)) := blt_fmtD (by omega) (by omega)
        have f3 : bltD .fmt (.int g.2.1) = some (.str (dig g.2.1)) := blt_fmtD (by omega) (by omega)
        have pl : pre.length ≤ 3 := by
          have := congrArg List.length q1
          simp at this; omega
        have pl2 : pre.length + 1 + 1 < 16777216 := by omega
        have key : Str.empty ++ ("gate " : Str) ++ dig g.1 ++ sp ++ dig g.2.1 ++ sp ++ sw g.2.2 = Str.join sp (wGate g) := e_gate
        cases hb : g.2.2 with
        | true =>
          rw [hb] at key
          simp [encGt, hb, f2, f3, Str.length_append, sizeLine_val, show sp.length = 1 from rfl, show ("gate " : Str).length = 5 from rfl, show ("shut" : Str).length = 4 from rfl, show Str.empty.length = 0 from rfl, pl2]
          exact ⟨pre ++ [g], suf, by simp [q1], rfl, by simp [← key, sw]⟩
        | false =>
          rw [hb] at key
          simp [encGt, hb, f2, f3, Str.length_append, sizeLine_val, show sp.length = 1 from rfl, show ("gate " : Str).length = 5 from rfl, show ("open" : Str).length = 4 from rfl, show Str.empty.length = 0 from rfl, pl2]
          exact ⟨pre ++ [g], suf, by simp [q1], rfl, by simp [← key, sw]⟩
    · rintro σ B ⟨pre, suf, s2, s3, s4, s5, q1, q2, rfl⟩
      have : suf = [] := by simpa using q2.symm
      subst this
      simp at q1
      subst q1
      have hlen := lines_sum o
      have jn : (((wlines L)).map (·.length)).sum + (wlines L).length * nl.length ≤ 16777216 := by
        have h4 : nl.length = 1 := rfl
        rw [h4]; omega
      have ew : (PyData.str (Str.join sp (wLand L.hs)) :: PyData.str (Str.join sp (wRain L.r0 L.r1)) :: L.gs.map (PyData.str ∘ Str.join sp ∘ wGate)) = (wlines L).map .str := by simp [wlines, wrows, Function.comp_def]
      simp [ew, joinD_map jn]
      rfl
end PD
set_option linter.all false
set_option maxRecDepth 100000
set_option maxHeartbeats 1000000
/-! The law's own text; figures read. -/
namespace PD
open PySem PySem.Spec PyProof.Rows L2
theorem v_law_text (n : Nat) (L : Ld) (o : L.Ok) : callP P0 (n + 1) 180 [encLd L] = .ok (.str (wtext L)) := by
  rw [run__law_text]
  apply fin_ok
  have e0 : itemD (encLd L) (.int 0) = some (.tuple (L.hs.map .int)) := item_t0
  have e1 : itemD (encLd L) (.int 1) = some (.tuple (L.gs.map encGt)) := item_t1
  have e2 : itemD (encLd L) (.int 2) = some (.tuple [.int L.r0, .int L.r1]) := item_t2
  have hl8 := o.l8
  have hr := o.r
  have hr1 := o.r1
  have hg3 := o.g3
  rw [L__law_text, sp_eq, nl_eq]
  simp [e0]
  refine W_compM (g := fun i => .str (dig i)) (fun i hi => ?_) ?_
  · have := o.h i hi
    simp [blt_strD this.1 this.2]
  · have em : (PyData.str ("land" : Str) :: L.hs.map fun i => PyData.str (dig i)) = (wLand L.hs).map .str := by simp [wLand]
    have jl : ((wLand L.hs).map (·.length)).sum + (wLand L.hs).length * sp.length ≤ 16777216 := by
      have h2 : ((wLand L.hs).map (·.length)).sum = 4 + L.hs.length := by
        rw [wLand, List.map_cons, List.sum_cons, sum_dig]; rfl
      have h3 : (wLand L.hs).length = 1 + L.hs.length := by simp [wLand]; omega
      have h4 : sp.length = 1 := rfl
      rw [h2, h3, h4]; omega
    have k1 : 1 + L.hs.length ≤ 16777216 := by omega
    have f0 : bltD .str (.int (L.r0 : Nat)) = some (.str (dig L.r0)) := blt_strD (by omega) (by omega)
    have f1 : bltD .str (.int (L.r1 : Nat)) = some (.str (dig L.r1)) := blt_strD (by omega) (by omega)
    simp [k1, em, joinD_map jl, e1, e2, f0, f1, Str.length_append, freeAt, show sp.length = 1 from rfl, show ("rain " : Str).length = 5 from rfl, sizeLine_val, e_rain2]
    refine W_forL (I := fun r σ B => ∃ (pre suf : List (Nat × Int × Bool)) (s2 s3 s4 s5 : Sl), L.gs = pre ++ suf ∧ r = suf.map encGt ∧ σ = [.val (encLd L), .own ((Str.join sp (wLand L.hs) :: Str.join sp (wRain L.r0 L.r1) :: (pre.map wGate).map (Str.join sp)).map .str), s2, s3, s4, s5]) ?_ ?_ _ _ _ ⟨[], L.gs, .emp, .emp, .emp, .emp, rfl, rfl, by simp⟩
    · rintro d r σ B ⟨pre, suf, s2, s3, s4, s5, q1, q2, rfl⟩
      cases suf with
      | nil => simp at q2
      | cons g suf =>
        simp only [List.map_cons, List.cons.injEq] at q2
        obtain ⟨rfl, rfl⟩ := q2
        have gg := o.g g (by rw [q1]; simp)
        have f2 : bltD .str (.int (g.1 : Nat)) = some (.str (dig g.1)) := blt_strD (by omega) (by omega)
        have f3 : bltD .str (.int g.2.1) = some (.str (dig g.2.1)) := blt_strD (by omega) (by omega)
        have pl : pre.length ≤ 3 := by
          have := congrArg List.length q1
          simp at this; omega
        have pl2 : pre.length + 1 + 1 < 16777216 := by omega
        have key := e_gate2 (g := g)
        cases hb : g.2.2 with
        | true =>
          rw [hb] at key
          simp only [if_true] at key
          simp [encGt, hb, f2, f3, Str.length_append, sizeLine_val, show sp.length = 1 from rfl, show ("gate " : Str).length = 5 from rfl, show (" shut" : Str).length = 5 from rfl, pl2]
          exact ⟨pre ++ [g], suf, by simp [q1], rfl, by simp [← key]⟩
        | false =>
          rw [hb] at key
          simp only [Bool.false_eq_true, if_false] at key
          simp [encGt, hb, f2, f3, Str.length_append, sizeLine_val, show sp.length = 1 from rfl, show ("gate " : Str).length = 5 from rfl, show (" open" : Str).length = 5 from rfl, pl2]
          exact ⟨pre ++ [g], suf, by simp [q1], rfl, by simp [← key]⟩
    · rintro σ B ⟨pre, suf, s2, s3, s4, s5, q1, q2, rfl⟩
      have : suf = [] := by simpa using q2.symm
      subst this
      simp at q1
      subst q1
      have hlen := lines_sum o
      have jn : (((wlines L)).map (·.length)).sum + (wlines L).length * nl.length ≤ 16777216 := by
        have h4 : nl.length = 1 := rfl
        rw [h4]; omega
      have ew : (PyData.str (Str.join sp (wLand L.hs)) :: PyData.str (Str.join sp (wRain L.r0 L.r1)) :: L.gs.map (PyData.str ∘ Str.join sp ∘ wGate)) = (wlines L).map .str := by simp [wlines, wrows, Function.comp_def]
      simp [ew, joinD_map jn]
      rfl
/-! ### figures -/
/-- the figure that a word is -/
def figN (w : Str) : Option Nat := match tl w with
  | [c] => if 48 ≤ c ∧ c ≤ 57 then some (c - 48) else none
  | _ => none
def figD (bad : D) (w : Str) : D := match figN w with
  | some k => .int k
  | none => bad
theorem figN_dig {w : Str} {k : Nat} (h : figN w = some k) : w = dig k ∧ k ≤ 9 := by
  unfold figN at h
  split at h
  · rename_i c e
    split at h
    · cases h
      refine ⟨str_ext ?_, by omega⟩
      rw [e]
      show [c] = [48 + ((c - 48 : Nat) : Int).toNat]
      rw [Int.toNat_natCast]
      congr 1
      omega
    · cases h
  · cases h
theorem figN_of {i : Int} (h0 : 0 ≤ i) (h9 : i ≤ 9) : figN (dig i) = some i.toNat := by
  simp [figN, dig]
  omega
theorem digits_tl : tl ("0123456789" : Str) = [48, 49, 50, 51, 52, 53, 54, 55, 56, 57] := by decide +kernel
theorem one_sign {w : Str} (h : w.length = 1) : ∃ c, w = ⟨#[c]⟩ := by
  obtain ⟨a⟩ := w
  have : a.size = 1 := h
  obtain ⟨c, hc⟩ := Array.size_eq_one_iff.mp this
  exact ⟨c, by rw [hc]⟩
theorem int_dig {k : Nat} (h : k ≤ 9) : bltD .int (.str (dig k)) = some (.int k) := by
  have : k = 0 ∨ k = 1 ∨ k = 2 ∨ k = 3 ∨ k = 4 ∨ k = 5 ∨ k = 6 ∨ k = 7 ∨ k = 8 ∨ k = 9 := by omega
  have ht : PySem.intText? (dig k) = some (k : Int) := by
    rcases this with rfl | rfl | rfl | rfl | rfl | rfl | rfl | rfl | rfl | rfl <;> decide +kernel
  have hl : (dig k).length ≤ 640 := by rw [dig_len]; omega
  simp only [bltD, ht, hl, if_true]
theorem in_digits {w : Str} (h : w.length = 1) : inD (.str w) (.str "0123456789") = some (figN w).isSome := by
  obtain ⟨c, rfl⟩ := one_sign h
  have := StrLaws.found_one ("0123456789" : Str) c
  simp only [inD]
  have hd : (Str.ofString "0123456789").cps.toList = [48, 49, 50, 51, 52, 53, 54, 55, 56, 57] := digits_tl
  rw [this, hd]
  simp [figN]
  by_cases h1 : 48 ≤ c ∧ c ≤ 57
  · have : c = 48 ∨ c = 49 ∨ c = 50 ∨ c = 51 ∨ c = 52 ∨ c = 53 ∨ c = 54 ∨ c = 55 ∨ c = 56 ∨ c = 57 := by omega
    simp [h1, this]
  · have : ¬ (c = 48 ∨ c = 49 ∨ c = 50 ∨ c = 51 ∨ c = 52 ∨ c = 53 ∨ c = 54 ∨ c = 55 ∨ c = 56 ∨ c = 57) := by omega
    simp [h1, this]
    omega
theorem figN_len {w : Str} (h : w.length ≠ 1) : figN w = none := by
  unfold figN
  split
  · rename_i c e
    exfalso
    apply h
    have := congrArg List.length e
    simpa [Str.length] using this
  · rfl
theorem v_figures (n : Nat) (ws : List Str) (hw : ∀ w ∈ ws, w.length ≤ 100000) : callP P0 (n + 1) 178 [.list (ws.map .str)] = .ok (.tuple (ws.map (figD .none))) := by
  rw [run_figures_in]
  apply fin_ok
  simp [L_figures_in]
  refine W_compM (g := figD .none) (fun w hm => ?_) ?_
  · have hl : w.length ≤ sizeLine := by have := hw w hm; rw [sizeLine_val]; omega
    by_cases h1 : w.length = 1
    · simp [show 1 ≤ sizeLine by rw [sizeLine_val]; omega, h1, in_digits h1]
      cases hf : figN w with
      | none => simp [figD, hf]
      | some k =>
        obtain ⟨rfl, hk⟩ := figN_dig hf
        simp [figD, hf, int_dig hk]
    · simp [hl, h1, figD, figN_len h1, show ¬ ((w.length : Int) = 1) by omega]
  · simp
theorem v_law_figures (n : Nat) (ws : List Str) (hw : ∀ w ∈ ws, w.length ≤ 100000) : callP P0 (n + 1) 181 [.list (ws.map .str)] = .ok (.tuple (ws.map (figD (.int (-1))))) := by
  rw [run__law_figures]
  apply fin_ok
  simp [L__law_figures]
  refine W_compM (g := figD (.int (-1))) (fun w hm => ?_) ?_
  · have hl : w.length ≤ sizeLine := by have := hw w hm; rw [sizeLine_val]; omega
    by_cases h1 : w.length = 1
    · simp [show 1 ≤ sizeLine by rw [sizeLine_val]; omega, h1, in_digits h1]
      cases hf : figN w with
      | none => simp [figD, hf]
      | some k =>
        obtain ⟨rfl, hk⟩ := figN_dig hf
        simp [figD, hf, int_dig hk]
    · simp [hl, h1, figD, figN_len h1, show ¬ ((w.length : Int) = 1) by omega]
  · simp
end PD
set_option linter.all false
set_option maxRecDepth 100000
set_option maxHeartbeats 1000000
/-! Texts read: which texts are the text of a land. -/
namespace PD
open PySem PySem.Spec PyProof.Rows L2
def rowsOf (s : Str) : List (List Str) := (Txt.split s nl).map fun l => Txt.split l sp
theorem word_free {L : Ld} (o : L.Ok) : ∀ r ∈ wrows L, r ≠ [] ∧ ∀ w ∈ r, 32 ∉ tl w ∧ 10 ∉ tl w := by
  have hd : ∀ i : Int, 32 ∉ tl (dig i) ∧ 10 ∉ tl (dig i) := by
    intro i
    have : tl (dig i) = [48 + i.toNat] := rfl
    rw [this]
    simp
    omega
  have k1 : 32 ∉ tl ("land" : Str) ∧ 10 ∉ tl ("land" : Str) := by decide +kernel
  have k2 : 32 ∉ tl ("rain" : Str) ∧ 10 ∉ tl ("rain" : Str) := by decide +kernel
  have k3 : 32 ∉ tl ("gate" : Str) ∧ 10 ∉ tl ("gate" : Str) := by decide +kernel
  have k4 : ∀ b, 32 ∉ tl (sw b) ∧ 10 ∉ tl (sw b) := by decide +kernel
  intro r hr
  simp only [wrows, List.mem_cons, List.mem_map] at hr
  rcases hr with rfl | rfl | ⟨g, _, rfl⟩
  · refine ⟨by simp [wLand], fun w hw => ?_⟩
    simp only [wLand, List.mem_cons, List.mem_map] at hw
    rcases hw with rfl | ⟨i, _, rfl⟩
    · exact k1
    · exact hd i
  · refine ⟨by simp [wRain], fun w hw => ?_⟩
    simp only [wRain, List.mem_cons, List.not_mem_nil, or_false] at hw
    rcases hw with rfl | rfl | rfl
    · exact k2
    · exact hd _
    · exact hd _
  · refine ⟨by simp [wGate], fun w hw => ?_⟩
    simp only [wGate, List.mem_cons, List.not_mem_nil, or_false] at hw
    rcases hw with rfl | rfl | rfl | rfl
    · exact k3
    · exact hd _
    · exact hd _
    · exact k4 _
theorem rows_of {L : Ld} (o : L.Ok) : rowsOf (wtext L) = wrows L := by
  have wf := word_free o
  have h1 : Txt.split (wtext L) nl = wlines L := by
    refine split_one (by simp [wlines, wrows]) fun p hp => ?_
    obtain ⟨r, hr, rfl⟩ := List.mem_map.mp hp
    rw [tl_join]
    intro hz
    rcases J_mem hz with e | ⟨q, hq, e⟩
    · cases e
    · obtain ⟨w, hw, rfl⟩ := List.mem_map.mp hq
      exact ((wf r hr).2 w hw).2 e
  unfold rowsOf
  rw [h1, wlines, List.map_map]
  conv => rhs; rw [← List.map_id (wrows L)]
  refine List.map_congr_left fun r hr => ?_
  exact split_one (wf r hr).1 fun w hw => ((wf r hr).2 w hw).1
theorem text_of {s : Str} {L : Ld} (h : rowsOf s = wrows L) : wtext L = s := by
  unfold wtext wlines
  rw [← h, rowsOf, List.map_map]
  have : ((Str.join sp) ∘ fun l => Txt.split l sp) = id := by
    funext l
    exact StrLaws.join_split l sp
  rw [this, List.map_id]
  exact StrLaws.join_split s nl
/-! ### what is found -/
def c13 (r : List Str) : List Str := (r.drop 1).take 2
def gateF (bad : D) (r : List Str) (f : Bool) : D := .tuple ((c13 r).map (figD bad) ++ [.bool f])
def foundF (bad : D) (r0 r1 : List Str) (gs : List D) : D := .tuple [.tuple (r0.tail.map (figD bad)), .tuple gs, .tuple (r1.tail.map (figD bad))]
theorem figD_dig {bad : D} {i : Int} (h0 : 0 ≤ i) (h9 : i ≤ 9) : figD bad (dig i) = .int i := by
  simp only [figD, figN_of h0 h9]
  congr 1
  omega
theorem found_w {L : Ld} (o : L.Ok) (bad : D) : foundF bad (wLand L.hs) (wRain L.r0 L.r1) (L.gs.map fun g => gateF bad (wGate g) g.2.2) = encLd L := by
  have hr := o.r
  have hr1 := o.r1
  have h8 := o.l8
  have e1 : (wLand L.hs).tail.map (figD bad) = L.hs.map .int := by
    simp only [wLand, List.tail_cons, List.map_map]
    exact List.map_congr_left fun i hi => figD_dig (o.h i hi).1 (o.h i hi).2
  have e2 : (wRain L.r0 L.r1).tail.map (figD bad) = [.int L.r0, .int L.r1] := by
    simp only [wRain, List.tail_cons, List.map_cons, List.map_nil]
    rw [figD_dig (by omega) (by omega), figD_dig (by omega) (by omega)]
  have e3 : (L.gs.map fun g => gateF bad (wGate g) g.2.2) = L.gs.map encGt := by
    refine List.map_congr_left fun g hg => ?_
    have := o.g g hg
    have : c13 (wGate g) = [dig g.1, dig g.2.1] := rfl
    simp only [gateF, this, List.map_cons, List.map_nil, encGt]
    rw [figD_dig (by omega) (by omega), figD_dig (by omega) (by omega)]
    rfl
  unfold foundF
  rw [e1, e2, e3]
  rfl
/-- whole numbers found come from figures -/
theorem figs_back {lo hi : Int} (hlo : 0 ≤ lo) : ∀ {ws : List Str} {ns : List Int}, ws.map (figD (.int (-1))) = ns.map .int → (∀ i ∈ ns, 0 ≤ i) → ws = ns.map dig ∧ ∀ i ∈ ns, i ≤ 9
  | [], [], _, _ => ⟨rfl, by simp⟩
  | [], _ :: _, h, _ => by simp at h
  | _ :: _, [], h, _ => by simp at h
  | w :: ws, i :: ns, h, hn => by
    simp only [List.map_cons, List.cons.injEq] at h
    obtain ⟨h1, h2⟩ := figs_back (lo := lo) (hi := hi) hlo h.2 fun j hj => hn j (by simp [hj])
    have h3 := h.1
    unfold figD at h3
    have i0 := hn i (by simp)
    cases hf : figN w with
    | none =>
      rw [hf] at h3
      simp only [PyData.int.injEq] at h3
      omega
    | some k =>
      rw [hf] at h3
      simp only [PyData.int.injEq] at h3
      obtain ⟨rfl, hk⟩ := figN_dig hf
      subst h3
      exact ⟨by simp [h1], fun j hj => by
        rcases List.mem_cons.mp hj with e | e
        · omega
        · exact h2 j e⟩
theorem clean_fig {w : Str} : clean (figD .none w) = true ∧ clean (figD (.int (-1)) w) = true := by
  unfold figD
  cases figN w <;> simp
end PD
set_option linter.all false
set_option maxRecDepth 100000
set_option maxHeartbeats 1000000
/-! read_land and the law's own reading. -/
namespace PD
open PySem PySem.Spec PyProof.Rows L2
theorem W_eq {α : Type} {x : M α} {v : α} {b : Bg} : W x (fun a B => a = v ∧ B = b) ↔ x = .ok (v, b) := by
  constructor
  · rintro ⟨a, B, e, rfl, rfl⟩; exact e
  · intro e; exact ⟨v, b, e, rfl, rfl⟩
theorem evSs_step {Γ : Tab} {s : MS} {r : MSs} {σ σ' : SEnv} {B B' : Bg} (h : W (evS Γ s σ B) fun f B2 => f = .nx σ' ∧ B2 = B') : evSs Γ (.cons s r) σ B = evSs Γ r σ' B' := by
  rw [evSs, W_eq.mp h]; rfl
theorem evSs_raise {Γ : Tab} {c : ME} {y r : MSs} {k : Nat} {σ : SEnv} {B : Bg} (h : W (ev Γ c σ B) fun d _ => d = .bool true) : evSs Γ (.cons (.ife c (.cons (.raise k) .nil) y) r) σ B = .err k := by
  obtain ⟨d, B', e, rfl⟩ := h
  rw [evSs, evS, e]
  show M.bind (evSs Γ (.cons (.raise k) .nil) σ B') _ = _
  rw [evSs, evS]; rfl
theorem fin_err {c : Nat} : fin (.err c) = .err c := rfl
def encRows (rows : List (List Str)) : List D := rows.map fun r => .list (r.map .str)
def lastIs (r : List Str) : Bool := decide (r.getLast? = some "shut")
theorem rows_ne (s : Str) : ∀ r ∈ rowsOf s, r ≠ [] := fun r hr => by
  obtain ⟨l, _, rfl⟩ := List.mem_map.mp hr
  exact split_ne _ _
theorem rows_word {s : Str} (hs : PyData.strOk s = true) {r : List Str} (hr : r ∈ rowsOf s) {w : Str} (hw : w ∈ r) : PyData.strOk w = true ∧ w.length ≤ s.length := by
  obtain ⟨l, hl, rfl⟩ := List.mem_map.mp hr
  exact ⟨split_ok (split_ok hs hl) hw, Nat.le_trans (split_le hw) (split_le hl)⟩
theorem cutR13 {r : List Str} : cutL r (some 1) (some 3) = c13 r := by
  unfold cutL cutAt c13
  cases r with
  | nil => rfl
  | cons a r =>
    cases r with
    | nil => rfl
    | cons b r =>
      cases r with
      | nil => rfl
      | cons c r => simp
theorem sliceR13 {r : List Str} : sliceD (.list (r.map .str)) (some 1) (some 3) = some (.list ((c13 r).map .str)) := by
  have : cutL (r.map PyData.str) (some 1) (some 3) = (c13 r).map PyData.str := by
    rw [← cutR13]
    unfold cutL
    rw [List.map_take, List.map_drop, List.length_map]
  simp [sliceD, this]
theorem cutR_drop {α : Type} {xs : List α} {k : Nat} (h : k ≤ xs.length) : cutL xs (some (k : Int)) none = xs.drop k := by
  unfold cutL cutAt
  have e : min k xs.length = k := by omega
  simp [show ¬ ((k : Int) < 0) by omega, e]
  exact List.take_of_length_le (by simp)
theorem item_last {r : List Str} {w : Str} (h : r.getLast? = some w) : itemD (.list (r.map .str)) (.int (-1)) = some (.str w) := by
  have hne : r ≠ [] := by
    intro e; rw [e] at h; cases h
  have hl : 0 < r.length := List.length_pos_iff.mpr hne
  have e1 : ixD r.length (-1) = some (r.length - 1) := by
    unfold ixD
    rw [if_neg (by omega), if_pos (by omega)]
    congr 1
    omega
  simp only [itemD, List.length_map, e1, Option.bind_some]
  rw [List.getElem?_map, ← List.getLast?_eq_getElem?, h]
  rfl
theorem split_conds {s : Str} (hl : s.length ≤ 100000) {c : Nat} : ¬ (⟨#[c]⟩ : Str).length = 0 ∧ s.length + 2 ≤ sizeLine ∧ (Txt.split s ⟨#[c]⟩).length ≤ sizeLine := by
  have h1 := split_len s c
  rw [sizeLine_val]
  refine ⟨by show ¬ 1 = 0; omega, by omega, by omega⟩
/-- rows are made of a text -/
theorem W_rows {n : Nat} {s : Str} (hl : s.length ≤ 100000) {σ : SEnv} {B : Bg} {Q : D → Bg → Prop} (h0 : getV σ 0 = some (.str s)) (h2 : ∀ l, getV (((wipeE σ [2]).set 2 (.val (.str l)))) 2 = some (.str l)) (q : Q (.list (encRows (rowsOf s))) B) :
    W (ev (tab P0 n) (.comp (.split (.var 2) (.con (.str " "))) (.nm 2) (.seq (.split (.var 0) (.con (.str "\n")))) .no [2]) σ B) Q := by
  obtain ⟨c1, c2, c3⟩ := split_conds hl (c := 10)
  rw [sp_eq, nl_eq]
  simp only [W_comp, W_seq, W_split, W_var, h0, Wo_some, Ws_str, W_con, seqD_lst]
  refine ⟨⟨c1, c2, c3⟩, ?_⟩
  refine W_compM (g := fun l => .list ((Txt.split l sp).map .str)) (fun l hm => ?_) ?_
  · obtain ⟨d1, d2, d3⟩ := split_conds (s := l) (by have := split_le hm; omega) (c := 32)
    simp only [W_turn, bindT_nm, Wo_some, W_split, W_var, h2, Ws_str, W_con]
    exact ⟨⟨d1, d2, d3⟩, by simp⟩
  · have : (Txt.split s nl).map (fun l => PyData.list ((Txt.split l sp).map .str)) = encRows (rowsOf s) := by
      unfold encRows rowsOf
      rw [List.map_map]; rfl
    rw [this]
    exact q
def readTail : MSs := (.cons (.ife (.orv (.nt (.call 4 (.cons (.var 5) .nil))) (.cmp .ne (.call 176 (.cons (.var 5) .nil)) (.var 0))) (.cons (.raise 6) .nil) .nil) (.cons (.ret (.var 5)) .nil))
theorem read_short (n : Nat) {s : Str} (hl : s.length ≤ 100000) (h2 : (rowsOf s).length < 2) : callP P0 (n + 1) 179 [.str s] = .err 6 := by
  rw [run_read_land]
  have : evSs (tab P0 n) L_read_land [.val (.str s), .emp, .emp, .emp, .emp, .emp] [] = .err 6 := by
    rw [L_read_land]
    refine (evSs_step (σ' := [.val (.str s), .emp, .emp, .emp, .emp, .emp]) (B' := []) (by simp)).trans ?_
    refine (evSs_step (σ' := [.val (.str s), .val (.list (encRows (rowsOf s))), .emp, .emp, .emp, .emp]) (B' := []) (W_asg.mpr (W_rows hl rfl (fun l => rfl) (by simp)))).trans ?_
    refine evSs_raise ?_
    simp [encRows]
    omega
  rw [this]; rfl
theorem read_mid (n : Nat) {s : Str} (hs : PyData.strOk s = true) (hl : s.length ≤ 100000) {r0 r1 : List Str} {rest : List (List Str)} (hr : rowsOf s = r0 :: r1 :: rest) :
    ∃ σ4, callP P0 (n + 2) 179 [.str s] = fin (evSs (tab P0 (n + 1)) readTail [.val (.str s), .val (.list (encRows (rowsOf s))), .emp, σ4, .emp, .val (foundF .none r0 r1 (rest.map fun r => gateF .none r (lastIs r)))] []) := by
  refine ⟨.val (.tuple (rest.map fun r => gateF .none r (lastIs r))), ?_⟩
  rw [run_read_land]
  congr 1
  rw [L_read_land]
  have wl : ∀ r ∈ rowsOf s, ∀ w ∈ r, w.length ≤ 100000 := fun r hr w hw => Nat.le_trans (rows_word hs hr hw).2 hl
  refine (evSs_step (σ' := [.val (.str s), .emp, .emp, .emp, .emp, .emp]) (B' := []) (by simp)).trans ?_
  refine (evSs_step (σ' := [.val (.str s), .val (.list (encRows (rowsOf s))), .emp, .emp, .emp, .emp]) (B' := []) (W_asg.mpr (W_rows hl rfl (fun l => rfl) (by simp)))).trans ?_
  have nl2 : ¬ ((rowsOf s).length : Int) < 2 := by rw [hr]; simp; omega
  refine (evSs_step (σ' := [.val (.str s), .val (.list (encRows (rowsOf s))), .emp, .emp, .emp, .emp]) (B' := []) (by simp [encRows, nl2])).trans ?_
  have sd : sliceD (.list (encRows (rowsOf s))) (some 2) none = some (.list (encRows rest)) := by
    have := cutR_drop (xs := encRows (rowsOf s)) (k := 2) (by rw [hr]; simp [encRows])
    have e2 : ((2 : Nat) : Int) = 2 := rfl
    rw [e2] at this
    simp only [sliceD, this]
    rw [hr]
    rfl
  refine (evSs_step (σ' := [.val (.str s), .val (.list (encRows (rowsOf s))), .emp, .val (.tuple (rest.map fun r => gateF .none r (lastIs r))), .emp, .emp]) (B' := []) ?_).trans ?_
  · simp [sd]
    refine W_compM (en := fun r : List Str => PyData.list (r.map .str)) (g := fun r => gateF .none r (lastIs r)) (fun r hm => ?_) ?_
    · have hm' : r ∈ rowsOf s := by rw [hr]; simp [hm]
      have hne := rows_ne s r hm'
      obtain ⟨w, hw⟩ : ∃ w, r.getLast? = some w := by
        cases hg : r.getLast? with
        | none => exact absurd (List.getLast?_eq_none_iff.mp hg) hne
        | some w => exact ⟨w, rfl⟩
      have hwm : w ∈ r := List.mem_of_getLast? hw
      have ow := (rows_word hs hm' hwm).1
      have hc : ∀ w ∈ c13 r, w.length ≤ 100000 := fun w hw => wl r hm' w (List.mem_of_mem_drop (List.mem_of_mem_take hw))
      have hc2 : (c13 r).length + 1 ≤ sizeLine := by
        rw [sizeLine_val]
        unfold c13
        simp
        omega
      simp [sliceR13, v_figures n (c13 r) hc, item_last hw, ow, hc2, gateF, lastIs, hw]
    · simp
  · have f0 := v_figures n r0.tail fun w hw => wl r0 (by rw [hr]; simp) w (List.mem_of_mem_tail hw)
    have f1 := v_figures n r1.tail fun w hw => wl r1 (by rw [hr]; simp) w (List.mem_of_mem_tail hw)
    have s0 : sliceD (.list (r0.map .str)) (some 1) none = some (.list (r0.tail.map .str)) := by simp
    refine (evSs_step (σ' := [.val (.str s), .val (.list (encRows (rowsOf s))), .emp, .val (.tuple (rest.map fun r => gateF .none r (lastIs r))), .emp, .val (foundF .none r0 r1 (rest.map fun r => gateF .none r (lastIs r)))]) (B' := []) ?_).trans ?_
    · simp [hr, encRows, f0, f1, foundF, ← List.map_tail]
    · rfl
end PD
set_option linter.all false
set_option maxRecDepth 100000
set_option maxHeartbeats 1000000
/-! What read_land, land_text and the law's own reading answer. -/
namespace PD
open PySem PySem.Spec PyProof.Rows L2
theorem ok_dig {i : Int} (h0 : 0 ≤ i) (h9 : i ≤ 9) : PyData.strOk (dig i) = true := by
  rw [strOk_iff]
  intro c hc
  have : tl (dig i) = [48 + i.toNat] := rfl
  rw [this] at hc
  simp at hc
  omega
theorem words_ok {L : Ld} (o : L.Ok) : ∀ r ∈ wrows L, ∀ w ∈ r, PyData.strOk w = true := by
  have k : ∀ x ∈ (["land", "rain", "gate"] : List Str), PyData.strOk x = true := by decide +kernel
  have k4 : ∀ b, PyData.strOk (sw b) = true := by decide +kernel
  have hr := o.r
  have hr1 := o.r1
  have h8 := o.l8
  intro r hr' w hw
  simp only [wrows, List.mem_cons, List.mem_map] at hr'
  rcases hr' with rfl | rfl | ⟨g, hg, rfl⟩
  · simp only [wLand, List.mem_cons, List.mem_map] at hw
    rcases hw with rfl | ⟨i, hi, rfl⟩
    · exact k _ (by simp)
    · exact ok_dig (o.h i hi).1 (o.h i hi).2
  · simp only [wRain, List.mem_cons, List.not_mem_nil, or_false] at hw
    rcases hw with rfl | rfl | rfl
    · exact k _ (by simp)
    · exact ok_dig (by omega) (by omega)
    · exact ok_dig (by omega) (by omega)
  · have := o.g g hg
    simp only [wGate, List.mem_cons, List.not_mem_nil, or_false] at hw
    rcases hw with rfl | rfl | rfl | rfl
    · exact k _ (by simp)
    · exact ok_dig (by omega) (by omega)
    · exact ok_dig (by omega) (by omega)
    · exact k4 _
theorem wtext_ok {L : Ld} (o : L.Ok) : PyData.strOk (wtext L) = true := by
  refine join_ok (by omega) fun p hp => ?_
  obtain ⟨r, hr, rfl⟩ := List.mem_map.mp hp
  exact join_ok (by omega) (words_ok o r hr)
theorem last_gate (g : Nat × Int × Bool) : lastIs (wGate g) = g.2.2 := by
  have : ∀ b, decide (sw b = ("shut" : Str)) = b := by decide +kernel
  simp [lastIs, wGate, this]
theorem found_wl {L : Ld} (o : L.Ok) (bad : D) : foundF bad (wLand L.hs) (wRain L.r0 L.r1) ((L.gs.map wGate).map fun r => gateF bad r (lastIs r)) = encLd L := by
  rw [List.map_map]
  have : ((fun r => gateF bad r (lastIs r)) ∘ wGate) = fun g => gateF bad (wGate g) g.2.2 := by
    funext g
    simp only [Function.comp, last_gate]
  rw [this, found_w o]
theorem read_yes (n : Nat) {L : Ld} (o : L.Ok) : callP P0 (n + 6) 179 [.str (wtext L)] = .ok (encLd L) := by
  obtain ⟨σ4, e⟩ := read_mid (n + 4) (wtext_ok o) (by have := wtext_len o; omega) (rows_of o)
  rw [e, found_wl o]
  apply fin_ok
  simp [readTail, v_is_land (n + 1) (encLd L) clean_encLd, land_of o, v_written (n + 4) L o, wtext_ok o]
theorem clean_found {r0 r1 : List Str} {gs : List (List Str)} : clean (foundF .none r0 r1 (gs.map fun r => gateF .none r (lastIs r))) = true ∧ clean (foundF (.int (-1)) r0 r1 (gs.map fun r => gateF (.int (-1)) r (lastIs r))) = true := by
  have h : ∀ bad, clean bad = true → ∀ ws : List Str, cleans (ws.map (figD bad)) = true := by
    intro bad hb ws
    rw [cleans_iff]
    intro d hd
    obtain ⟨w, _, rfl⟩ := List.mem_map.mp hd
    unfold figD
    cases figN w <;> simp [hb]
  have h2 : ∀ bad, clean bad = true → cleans (gs.map fun r => gateF bad r (lastIs r)) = true := by
    intro bad hb
    rw [cleans_iff]
    intro d hd
    obtain ⟨r, _, rfl⟩ := List.mem_map.mp hd
    simp only [gateF, clean_tup]
    rw [cleans_iff]
    intro x hx
    rcases List.mem_append.mp hx with e | e
    · exact cleans_iff.mp (h bad hb (c13 r)) x e
    · rw [List.mem_singleton.mp e]; simp
  simp [foundF, -List.map_tail, h _ clean_none, h _ (clean_int (i := -1)), h2 _ clean_none, h2 _ (clean_int (i := -1))]
theorem read_no (n : Nat) {s : Str} (hs : PyData.strOk s = true) (hl : s.length ≤ 100000) (hno : ∀ L : Ld, L.Ok → wtext L ≠ s) : callP P0 (n + 6) 179 [.str s] = .err 6 := by
  match hr : rowsOf s with
  | [] => exact read_short (n + 5) hl (by rw [hr]; simp)
  | [_] => exact read_short (n + 5) hl (by rw [hr]; simp)
  | r0 :: r1 :: rest =>
    obtain ⟨σ4, e⟩ := read_mid (n + 4) hs hl hr
    rw [e]
    have cf := (clean_found (r0 := r0) (r1 := r1) (gs := rest)).1
    generalize foundF .none r0 r1 (rest.map fun r => gateF .none r (lastIs r)) = fd at cf
    have : evSs (tab P0 (n + 5)) readTail [.val (.str s), .val (.list (encRows (rowsOf s))), .emp, σ4, .emp, .val fd] [] = .err 6 := by
      refine evSs_raise ?_
      cases hb : landB fd with
      | false => simp [v_is_land (n + 1) fd cf, hb]
      | true =>
        obtain ⟨L, rfl, o⟩ := land_enc hb
        have ne := hno L o
        simp [v_is_land (n + 1) (encLd L) cf, hb, v_written (n + 4) L o, wtext_ok o, hs, ne]
    rw [this]; rfl
theorem read_odd (n : Nat) {d : D} (h : isiD .str d = some false) : callP P0 (n + 1) 179 [d] = .err 6 := by
  rw [run_read_land]
  have : evSs (tab P0 n) L_read_land [.val d, .emp, .emp, .emp, .emp, .emp] [] = .err 6 := by
    rw [L_read_land]
    refine evSs_raise ?_
    simp [h]
  rw [this]; rfl
theorem v_land_text (n : Nat) (L : Ld) (o : L.Ok) : callP P0 (n + 6) 177 [encLd L] = .ok (.str (wtext L)) := by
  rw [run_land_text]
  apply fin_ok
  simp [L_land_text, v_need_land n (encLd L) clean_encLd (land_of o), v_written (n + 4) L o]
theorem x_land_text (n : Nat) (d : D) (h : clean d = true) (hl : landB d = false) : callP P0 (n + 6) 177 [d] = .err 1 := by
  rw [run_land_text]
  simp [L_land_text, evSs, evS, ev, evs, boolM, getV, M.bind, R.bind, ofO, x_need_land n d h hl, fin, endD]
end PD
set_option linter.all false
set_option maxRecDepth 100000
set_option maxHeartbeats 1000000
/-! The law's own reading. -/
namespace PD
open PySem PySem.Spec PyProof.Rows L2
open Classical in
/-- the land whose text it is, or None -/
noncomputable def ans (s : Str) : D := if h : ∃ L : Ld, L.Ok ∧ wtext L = s then encLd h.choose else .none
theorem text_inj {L L' : Ld} (o : L.Ok) (o' : L'.Ok) (h : wtext L = wtext L') : encLd L = encLd L' := by
  have h1 := rows_of o
  have h2 := rows_of o'
  rw [h, h2] at h1
  rw [← found_wl o .none, ← found_wl o' .none]
  simp only [wrows, List.cons.injEq] at h1
  obtain ⟨e1, e2, e3⟩ := h1
  rw [e1, e2, e3]
theorem ans_yes {L : Ld} {s : Str} (o : L.Ok) (h : wtext L = s) : ans s = encLd L := by
  have hx : ∃ L : Ld, L.Ok ∧ wtext L = s := ⟨L, o, h⟩
  unfold ans
  rw [dif_pos hx]
  exact text_inj hx.choose_spec.1 o (hx.choose_spec.2.trans h.symm)
theorem ans_no {s : Str} (h : ∀ L : Ld, L.Ok → wtext L ≠ s) : ans s = .none := by
  unfold ans
  rw [dif_neg]
  rintro ⟨L, o, e⟩
  exact h L o e
def rowOk (r : List Str) : Prop := ∃ w1 w2 b, r = [("gate" : Str), w1, w2, sw b]
theorem gates_back : ∀ {rest : List (List Str)} {gs : List (Nat × Int × Bool)}, (∀ r ∈ rest, rowOk r) → (∀ g ∈ gs, 0 ≤ g.2.1) → (rest.map fun r => gateF (.int (-1)) r (lastIs r)) = gs.map encGt → rest = gs.map wGate
  | [], [], _, _, _ => rfl
  | [], _ :: _, _, _, h => by simp at h
  | _ :: _, [], _, _, h => by simp at h
  | r :: rest, g :: gs, h1, h2, h => by
    simp only [List.map_cons, List.cons.injEq] at h
    have ih := gates_back (fun r hr => h1 r (by simp [hr])) (fun g hg => h2 g (by simp [hg])) h.2
    obtain ⟨w1, w2, b, rfl⟩ := h1 r (by simp)
    have hb : ∀ b, decide (sw b = ("shut" : Str)) = b := by decide +kernel
    have h3 := h.1
    have c : c13 [("gate" : Str), w1, w2, sw b] = [w1, w2] := rfl
    simp only [gateF, c, List.map_cons, List.map_nil, encGt, PyData.tuple.injEq, List.cons_append, List.nil_append, List.cons.injEq, PyData.bool.injEq, and_true] at h3
    obtain ⟨q1, q2, q3⟩ := h3
    have := figs_back (lo := 0) (hi := 0) (by omega) (ws := [w1, w2]) (ns := [(g.1 : Int), g.2.1]) (by simp [q1, q2]) (by
      intro i hi
      simp at hi
      have := h2 g (by simp)
      rcases hi with rfl | rfl <;> omega)
    simp only [List.map_cons, List.map_nil, List.cons.injEq, and_true] at this
    obtain ⟨⟨e1, e2⟩, _⟩ := this
    have e3 : b = g.2.2 := by
      rw [← q3]
      simp [lastIs, hb]
    rw [ih, List.map_cons, wGate, e1, e2, e3]
theorem back {L : Ld} (o : L.Ok) {r0 r1 : List Str} {rest : List (List Str)} (h0 : r0.head? = some ("land" : Str)) (h1 : r1.head? = some ("rain" : Str)) (h2 : ∀ r ∈ rest, rowOk r) (h : foundF (.int (-1)) r0 r1 (rest.map fun r => gateF (.int (-1)) r (lastIs r)) = encLd L) : r0 :: r1 :: rest = wrows L := by
  unfold foundF encLd at h
  simp only [PyData.tuple.injEq, List.cons.injEq, and_true] at h
  obtain ⟨e1, e2, e3⟩ := h
  have f1 := (figs_back (lo := 0) (hi := 0) (by omega) e1 fun i hi => (o.h i hi).1).1
  have f3 := (figs_back (lo := 0) (hi := 0) (by omega) (ns := [(L.r0 : Int), L.r1]) e3 (by
    intro i hi
    simp at hi
    rcases hi with rfl | rfl <;> omega)).1
  have f2 := gates_back h2 (fun g hg => by have := (o.g g hg).2.1; omega) e2
  cases r0 with
  | nil => cases h0
  | cons a r0 =>
    cases r1 with
    | nil => cases h1
    | cons b r1 =>
      simp only [List.head?_cons, Option.some.injEq] at h0 h1
      simp only [List.tail_cons] at f1 f3
      rw [h0, h1, f1, f3, f2]
      rfl
theorem item_l2 {a b c : D} {ds : List D} : itemD (.list (a :: b :: c :: ds)) (.int 2) = some c := item_ln (k := 2) rfl
theorem item_l3 {a b c d : D} {ds : List D} : itemD (.list (a :: b :: c :: d :: ds)) (.int 3) = some d := item_ln (k := 3) rfl
theorem ok_oc' : ∀ x ∈ (["shut", "open"] : List Str), PyData.strOk x = true := by decide +kernel
@[simp] theorem ok_land : PyData.strOk "land" = true := by decide +kernel
@[simp] theorem ok_rain : PyData.strOk "rain" = true := by decide +kernel
@[simp] theorem ok_gate : PyData.strOk "gate" = true := by decide +kernel
theorem v_law_read (n : Nat) {s : Str} (hs : PyData.strOk s = true) (hl : s.length ≤ 100000) : callP P0 (n + 6) 182 [.str s] = .ok (ans s) := by
  rw [run__law_read]
  apply fin_ok
  have wl : ∀ r ∈ rowsOf s, ∀ w ∈ r, w.length ≤ 100000 := fun r hr w hw => Nat.le_trans (rows_word hs hr hw).2 hl
  have wo : ∀ r ∈ rowsOf s, ∀ w ∈ r, PyData.strOk w = true := fun r hr w hw => (rows_word hs hr hw).1
  have none_of : (∀ L : Ld, L.Ok → rowsOf s ≠ wrows L) → ans s = .none := fun h => ans_no fun L o e => h L o (by rw [← e]; exact rows_of o)
  rw [L__law_read]
  refine W_scons.mpr (W_asg.mpr (W_rows hl rfl (fun l => rfl) ?_))
  simp only [bindT_nm, Wo_some, Wf_nx]
  match hr : rowsOf s, rows_ne s with
  | [], _ =>
    rw [none_of fun L o e => by rw [hr] at e; simp [wrows] at e]
    simp [encRows]
  | [_], _ =>
    rw [none_of fun L o e => by rw [hr] at e; simp [wrows] at e]
    simp [encRows]
  | r0 :: r1 :: rest, ne =>
    rw [hr] at wl wo none_of
    obtain ⟨a, r0', rfl⟩ : ∃ a r0', r0 = a :: r0' := by
      cases r0 with
      | nil => exact absurd rfl (ne [] (by simp))
      | cons a r => exact ⟨a, r, rfl⟩
    obtain ⟨b, r1', rfl⟩ : ∃ b r1', r1 = b :: r1' := by
      cases r1 with
      | nil => exact absurd rfl (ne [] (by simp))
      | cons a r => exact ⟨a, r, rfl⟩
    have oa := wo (a :: r0') (by simp) a (by simp)
    have ob := wo (b :: r1') (by simp) b (by simp)
    have nl2 : ¬ ((rest.length : Int) + 1 + 1 < 2) := by omega
    by_cases ha : a = ("land" : Str)
    · by_cases hb : b = ("rain" : Str)
      · subst ha hb
        have sd : sliceD (.list (encRows (("land" :: r0') :: ("rain" :: r1') :: rest))) (some 2) none = some (.list (encRows rest)) := by
          have := cutR_drop (xs := encRows (((("land" : Str)) :: r0') :: (("rain" : Str) :: r1') :: rest)) (k := 2) (by simp [encRows])
          have e2 : ((2 : Nat) : Int) = 2 := rfl
          rw [e2] at this
          simp only [sliceD, this]
          rfl
        have i0 : itemD (.list (encRows (("land" :: r0') :: ("rain" :: r1') :: rest))) (.int 0) = some (.list (((("land" : Str)) :: r0').map .str)) := item_l0
        have i1 : itemD (.list (encRows (("land" :: r0') :: ("rain" :: r1') :: rest))) (.int 1) = some (.list (((("rain" : Str)) :: r1').map .str)) := item_l1
        have ll : (encRows (("land" :: r0') :: ("rain" :: r1') :: rest)).length = rest.length + 2 := by simp [encRows]
        generalize encRows (("land" :: r0') :: ("rain" :: r1') :: rest) = er at sd i0 i1 ll
        simp [ll, show ¬ ((rest.length : Int) + 2 < 2) by omega, i0, i1, sd]
        have rl : rest.length ≤ 200000 := by
          have h1 : (Txt.split s nl).length ≤ s.length + 1 := split_len s 10
          have h2 : (rowsOf s).length = (Txt.split s nl).length := by simp [rowsOf]
          rw [hr] at h2
          simp at h2
          omega
        have bad : ∀ r ∈ rest, ¬ rowOk r → ans s = .none := fun r hm hk => none_of fun L o e => by
          simp only [wrows, List.cons.injEq] at e
          rw [e.2.2] at hm
          obtain ⟨g, _, rfl⟩ := List.mem_map.mp hm
          exact hk ⟨_, _, _, rfl⟩
        refine W_forL (I := fun r σ B => ∃ (pre suf : List (List Str)) (s4 : Sl), rest = pre ++ suf ∧ r = encRows suf ∧ (∀ x ∈ pre, rowOk x) ∧ σ = [.val (.str s), .val (.list er), .emp, .val (.tuple (pre.map fun r => gateF (.int (-1)) r (lastIs r))), s4, .emp]) ?_ ?_ _ _ _ ⟨[], rest, .emp, rfl, rfl, by simp, rfl⟩
        · rintro d rr σ B ⟨pre, suf, s4, q1, q2, q3, rfl⟩
          cases suf with
          | nil => simp [encRows] at q2
          | cons r suf =>
            simp only [encRows, List.map_cons, List.cons.injEq] at q2
            obtain ⟨rfl, rfl⟩ := q2
            have hm : r ∈ rest := by rw [q1]; simp
            have hm2 : r ∈ (("land" : Str) :: r0') :: (("rain" : Str) :: r1') :: rest := by simp [hm]
            have pl : pre.length + 1 ≤ sizeLine := by
              have := congrArg List.length q1
              simp at this
              rw [sizeLine_val]; omega
            by_cases hk : rowOk r
            · obtain ⟨w1, w2, b, rfl⟩ := hk
              have c : c13 [("gate" : Str), w1, w2, sw b] = [w1, w2] := rfl
              have f := v_law_figures (n + 4) [w1, w2] fun w hw => wl _ hm2 w (by
                simp at hw
                rcases hw with rfl | rfl <;> simp)
              have sl := sliceR13 (r := [("gate" : Str), w1, w2, sw b])
              rw [c] at sl
              simp only [List.map_cons, List.map_nil] at f sl
              have osw : PyData.strOk (sw b) = true := by cases b <;> decide +kernel
              have isw : inD (.str (sw b)) (.list [.str "shut", .str "open"]) = some true := by
                have := in_strsL (x := sw b) (xs := ["shut", "open"]) osw ok_oc'
                simp only [List.map_cons, List.map_nil] at this
                rw [this]
                cases b <;> decide +kernel
              have esw : decide (sw b = ("shut" : Str)) = b := by cases b <;> decide +kernel
              have sz3 : (3 : Nat) ≤ sizeLine := le_sz (by omega)
              simp [item_l3, isw, sl, f, osw, esw, pl, sz3]
              refine ⟨pre ++ [[("gate" : Str), w1, w2, sw b]], suf, by simp [q1], rfl, ?_, ?_⟩
              · intro x hx
                rcases List.mem_append.mp hx with e | e
                · exact q3 x e
                · rw [List.mem_singleton.mp e]; exact ⟨w1, w2, b, rfl⟩
              · simp [gateF, c, lastIs, esw]
            · rw [bad r hm hk]
              by_cases h4 : r.length = 4
              · match r, h4, hm2, hk with
                | [w0, w1, w2, w3], _, hm2, hk =>
                  have o0 := wo _ hm2 w0 (by simp)
                  have o3 := wo _ hm2 w3 (by simp)
                  by_cases hg : w0 = ("gate" : Str)
                  · subst hg
                    have i3 : inD (.str w3) (.list [.str "shut", .str "open"]) = some false := by
                      have := in_strsL (x := w3) (xs := ["shut", "open"]) o3 ok_oc'
                      simp only [List.map_cons, List.map_nil] at this
                      rw [this]
                      have n1 : ¬ ("shut" : Str) = w3 := fun e => hk ⟨w1, w2, true, by rw [← e]; rfl⟩
                      have n2 : ¬ ("open" : Str) = w3 := fun e => hk ⟨w1, w2, false, by rw [← e]; rfl⟩
                      simp [n1, n2]
                    simp [item_l3, i3]
                  · simp [o0, hg]
              · simp [show ¬ ((r.length : Int) = 4) by omega]
        · rintro σ B ⟨pre, suf, s4, q1, q2, q3, rfl⟩
          have : suf = [] := by simpa [encRows] using q2.symm
          subst this
          simp at q1
          subst q1
          have f0 := v_law_figures (n + 4) r0' fun w hw => wl (("land" : Str) :: r0') (by simp) w (by simp [hw])
          have f1 := v_law_figures (n + 4) r1' fun w hw => wl (("rain" : Str) :: r1') (by simp) w (by simp [hw])
          have cf := (clean_found (r0 := ("land" : Str) :: r0') (r1 := ("rain" : Str) :: r1') (gs := rest)).2
          have ef : foundF (.int (-1)) (("land" : Str) :: r0') (("rain" : Str) :: r1') (rest.map fun r => gateF (.int (-1)) r (lastIs r)) = .tuple [.tuple (r0'.map (figD (.int (-1)))), .tuple (rest.map fun r => gateF (.int (-1)) r (lastIs r)), .tuple (r1'.map (figD (.int (-1))))] := rfl
          have key : (if landB (foundF (.int (-1)) (("land" : Str) :: r0') (("rain" : Str) :: r1') (rest.map fun r => gateF (.int (-1)) r (lastIs r))) = true then foundF (.int (-1)) (("land" : Str) :: r0') (("rain" : Str) :: r1') (rest.map fun r => gateF (.int (-1)) r (lastIs r)) else .none) = ans s := by
            split
            · rename_i hb
              obtain ⟨L, e, o⟩ := land_enc hb
              rw [e]
              exact (ans_yes o (text_of (hr.trans (back o rfl rfl q3 e)))).symm
            · rename_i hb
              refine (none_of fun L o e => hb ?_).symm
              simp only [wrows, List.cons.injEq] at e
              obtain ⟨e1, e2, e3⟩ := e
              rw [e1, e2, e3, found_wl o]
              exact land_of o
          rw [ef] at cf key
          simp [i0, i1, f0, f1, v_is_land (n + 1) _ cf]
          rw [← key]
          split <;> simp_all
      · rw [none_of fun L o e => by
          simp only [wrows, List.cons.injEq] at e
          have := e.2.1
          simp only [wRain, List.cons.injEq] at this
          exact hb this.1]
        simp [encRows, nl2, oa, ob, ha, hb]
    · rw [none_of fun L o e => by
        simp only [wrows, List.cons.injEq] at e
        have := e.1
        simp only [wLand, List.cons.injEq] at this
        exact ha this.1]
      simp [encRows, nl2, oa, ob, ha]
end PD
set_option linter.all false
set_option maxRecDepth 100000
set_option maxHeartbeats 1000000
/-! Texts that are bent. -/
namespace PD
open PySem PySem.Spec PyProof.Rows L2
def Gd1 (p : Str) : Prop := PyData.strOk p = true ∧ p.length ≤ 300
theorem sum_le {M : Nat} : ∀ ps : List Str, (∀ p ∈ ps, p.length ≤ M) → (ps.map (·.length)).sum ≤ M * ps.length
  | [], _ => by simp
  | p :: ps, h => by
    have h1 := h p (by simp)
    have h2 := sum_le ps fun q hq => h q (by simp [hq])
    simp only [List.map_cons, List.sum_cons, List.length_cons, Nat.mul_add]
    omega
theorem join_good {c : Nat} (hc : c < 0x110000) {ps : List Str} (h : ∀ p ∈ ps, Gd1 p) (hn : ps.length ≤ 300) : joinD ⟨#[c]⟩ (ps.map .str) = some (.str (Str.join ⟨#[c]⟩ ps)) ∧ PyData.strOk (Str.join ⟨#[c]⟩ ps) = true ∧ (Str.join ⟨#[c]⟩ ps).length ≤ 100000 := by
  have h1 := sum_le (M := 300) ps fun p hp => (h p hp).2
  have h2 := join_len ⟨#[c]⟩ ps
  have h3 : (⟨#[c]⟩ : Str).length = 1 := rfl
  have h4 : 300 * ps.length ≤ 300 * 300 := Nat.mul_le_mul_left _ hn
  rw [h3] at h2
  exact ⟨joinD_map (by rw [h3]; omega), join_ok hc fun p hp => (h p hp).1, by omega⟩
theorem join_good2 {c : Nat} (hc : c < 0x110000) {ps : List Str} (h : ∀ p ∈ ps, PyData.strOk p = true) (hn : (ps.map (·.length)).sum + ps.length ≤ 100000) : joinD ⟨#[c]⟩ (ps.map .str) = some (.str (Str.join ⟨#[c]⟩ ps)) ∧ PyData.strOk (Str.join ⟨#[c]⟩ ps) = true ∧ (Str.join ⟨#[c]⟩ ps).length ≤ 100000 := by
  have h2 := join_len ⟨#[c]⟩ ps
  have h3 : (⟨#[c]⟩ : Str).length = 1 := rfl
  rw [h3] at h2
  exact ⟨joinD_map (by rw [h3]; omega), join_ok hc h, by omega⟩
theorem cutR_take {α : Type} {xs : List α} {k : Nat} (h : k ≤ xs.length) : cutL xs none (some (k : Int)) = xs.take k := by
  unfold cutL cutAt
  simp [show ¬ ((k : Int) < 0) by omega]
theorem lst_to {ps : List Str} {k : Nat} (h : k ≤ ps.length) : sliceD (.list (ps.map .str)) none (some (k : Int)) = some (.list ((ps.take k).map .str)) := by
  simp [sliceD, cutR_take (xs := ps.map PyData.str) (k := k) (by simpa using h)]
theorem lst_from {ps : List Str} {k : Nat} (h : k ≤ ps.length) : sliceD (.list (ps.map .str)) (some (k : Int)) none = some (.list ((ps.drop k).map .str)) := by
  simp [sliceD, cutR_drop (xs := ps.map PyData.str) (k := k) (by simpa using h)]
def sTo (x : Str) (k : Nat) : Str := ⟨((tl x).take k).toArray⟩
def sFrom (x : Str) (k : Nat) : Str := ⟨((tl x).drop k).toArray⟩
theorem str_to {x : Str} {k : Nat} (h : k ≤ x.length) (hx : x.length ≤ sizeLine) : sliceD (.str x) none (some (k : Int)) = some (.str (sTo x k)) := by
  simp [sliceD, hx, cutR_take (xs := tl x) (k := k) (by simpa [Str.length] using h), sTo]
theorem str_from {x : Str} {k : Nat} (h : k ≤ x.length) (hx : x.length ≤ sizeLine) : sliceD (.str x) (some (k : Int)) none = some (.str (sFrom x k)) := by
  simp [sliceD, hx, cutR_drop (xs := tl x) (k := k) (by simpa [Str.length] using h), sFrom]
theorem sTo_good {x : Str} {k : Nat} (h : PyData.strOk x = true) : PyData.strOk (sTo x k) = true ∧ (sTo x k).length ≤ x.length := by
  refine ⟨?_, ?_⟩
  · rw [strOk_iff] at *
    intro c hc
    exact h c (List.mem_of_mem_take (by simpa [sTo] using hc))
  · simp [sTo, Str.length]
    omega
theorem sFrom_good {x : Str} {k : Nat} (h : PyData.strOk x = true) : PyData.strOk (sFrom x k) = true ∧ (sFrom x k).length ≤ x.length := by
  refine ⟨?_, ?_⟩
  · rw [strOk_iff] at *
    intro c hc
    exact h c (List.mem_of_mem_drop (by simpa [sFrom] using hc))
  · simp [sFrom, Str.length]
def signsL : List Str := [sp, "x", nl, "1", "0", " 2", "\ngate 7 2 shut", "\ngate 1 1 open", "-"]
theorem signs_ok : ∀ x ∈ signsL, PyData.strOk x = true ∧ x.length ≤ 20 := by decide +kernel
@[simp] theorem blt_revtL {xs : List D} : bltD .revt (.list xs) = some (.list xs.tail.reverse) := rfl
theorem W_bent (n : Nat) {t : Str} (ot : PyData.strOk t = true) (lt : t.length ≤ 100) {B : Bg} {Q : D → Bg → Prop} (q : ∀ s B', PyData.strOk s = true → s.length ≤ 100000 → Q (.str s) B') : W (callB P0 (n + 3) 183 [.str t] B) Q := by
  rw [run__law_bent, W_endD]
  have lz : t.length ≤ sizeLine := le_sz (by omega)
  have hln : (Txt.split t nl).length ≤ t.length + 1 := split_len t 10
  have hlp : 0 < (Txt.split t nl).length := List.length_pos_iff.mpr (split_ne t nl)
  have gl : ∀ p ∈ Txt.split t nl, Gd1 p := fun p hp => ⟨split_ok ot hp, by have := split_le hp; omega⟩
  obtain ⟨c1, c2, c3⟩ := split_conds (s := t) (by omega) (c := 10)
  rw [L__law_bent, sp_eq, nl_eq]
  simp [lz]
  refine W_take (n + 1) (by omega) fun at_ hat => ?_
  simp
  refine W_take (n + 1) (by omega) fun way hway => ?_
  simp
  refine ⟨⟨c1, c2, c3⟩, ?_⟩
  generalize hls : Txt.split t nl = ls at hln hlp gl c3
  refine W_take (n + 1) (by omega) fun line hline => ?_
  have hline : line < ls.length := by omega
  have hat : at_ ≤ t.length := by omega
  have sz : ∀ {k : Nat}, k ≤ 10000 → k ≤ sizeLine := fun h => by rw [sizeLine_val]; omega
  have lt1 : (ls.take line).length ≤ 101 := by simp; omega
  have e1 : sliceD (.list (ls.map .str)) none (some (line : Int)) = some (.list ((ls.take line).map .str)) := lst_to (by omega)
  have e2 : sliceD (.list (ls.map .str)) (some (line : Int)) none = some (.list ((ls.drop line).map .str)) := lst_from (by omega)
  have e3 : sliceD (.list (ls.map .str)) none (some ((line : Int) + 1)) = some (.list ((ls.take (line + 1)).map .str)) := lst_to (k := line + 1) (by omega)
  have e4 : sliceD (.list (ls.map .str)) (some ((line : Int) + 1)) none = some (.list ((ls.drop (line + 1)).map .str)) := lst_from (k := line + 1) (by omega)
  have gt : ∀ k, ∀ p ∈ ls.take k, Gd1 p := fun k p hp => gl p (List.mem_of_mem_take hp)
  have gd : ∀ k, ∀ p ∈ ls.drop k, Gd1 p := fun k p hp => gl p (List.mem_of_mem_drop hp)
  have ga : ∀ {a b : List Str}, (∀ p ∈ a, Gd1 p) → (∀ p ∈ b, Gd1 p) → ∀ p ∈ a ++ b, Gd1 p := fun ha hb p hp => (List.mem_append.mp hp).elim (ha p) (hb p)
  by_cases w0 : way = 0
  · simp [w0]
    refine W_choice n (by simp) fun x hx => ?_
    obtain ⟨y, rfl, hy⟩ : ∃ y, x = .str y ∧ y ∈ signsL := by
      simp at hx
      rcases hx with rfl | rfl | rfl | rfl | rfl | rfl | rfl | rfl | rfl <;> exact ⟨_, rfl, by simp [signsL]⟩
    obtain ⟨oy, ly⟩ := signs_ok y hy
    have a1 := sTo_good (k := at_) ot
    have a2 := sFrom_good (k := at_) ot
    have z1 : (sTo t at_).length + y.length ≤ sizeLine := sz (by omega)
    have z2 : (sTo t at_).length + y.length + (sFrom t at_).length ≤ sizeLine := sz (by omega)
    simp [str_to hat lz, str_from hat lz, z1, z2, Str.length_append]
    exact q _ _ (append_ok (append_ok a1.1 oy) a2.1) (by rw [Str.length_append, Str.length_append]; omega)
  by_cases w1 : way = 1
  · have a1 := sTo_good (k := at_) ot
    obtain ⟨z, hz, oz, lz2⟩ : ∃ z, sliceD (.str t) (some ((at_ : Int) + 1)) none = some (.str z) ∧ PyData.strOk z = true ∧ z.length ≤ t.length := by
      by_cases h : at_ + 1 ≤ t.length
      · have a2 := sFrom_good (k := at_ + 1) ot
        exact ⟨_, str_from (k := at_ + 1) h lz, a2.1, a2.2⟩
      · refine ⟨Str.empty, ?_, by decide +kernel, Nat.zero_le _⟩
        have e : at_ = t.length := by omega
        subst e
        have : cutL (tl t) (some ((t.length : Int) + 1)) none = [] := by
          have ht : (tl t).length = t.length := by simp [Str.length]
          have hc : cutAt (tl t).length 0 (some ((t.length : Int) + 1)) = (tl t).length := by
            unfold cutAt
            simp only
            rw [if_neg (by omega), ht]
            omega
          unfold cutL
          rw [hc, List.drop_length, List.take_nil]
        simp [sliceD, lz, this]
        rfl
    have z1 : (sTo t at_).length + z.length ≤ sizeLine := sz (by omega)
    simp [w1, str_to hat lz, hz, z1]
    exact q _ _ (append_ok a1.1 oz) (by rw [Str.length_append]; omega)
  by_cases w2 : way = 2
  · have k := ga (gt line) (gd (line + 1))
    have jg := join_good (c := 10) (by omega) k (by simp; omega)
    have z : min line ls.length + (ls.length - (line + 1)) ≤ sizeLine := sz (by omega)
    have jj := jg.1
    rw [List.map_append, List.map_take, List.map_drop] at jj
    simp [w2, e1, e4, z, jj]
    exact q _ _ jg.2.1 jg.2.2
  by_cases w3 : way = 3
  · have k := ga (gt (line + 1)) (gd line)
    have jg := join_good (c := 10) (by omega) k (by simp; omega)
    have z : min (line + 1) ls.length + (ls.length - line) ≤ sizeLine := sz (by omega)
    have jj := jg.1
    rw [List.map_append, List.map_take, List.map_drop] at jj
    simp [w3, e3, e2, z, jj]
    exact q _ _ jg.2.1 jg.2.2
  by_cases w4 : way = 4
  · have k := ga (gd line) (gt line)
    have jg := join_good (c := 10) (by omega) k (by simp; omega)
    have z : ls.length - line + min line ls.length ≤ sizeLine := sz (by omega)
    have jj := jg.1
    rw [List.map_append, List.map_drop, List.map_take] at jj
    simp [w4, e1, e2, z, jj]
    exact q _ _ jg.2.1 jg.2.2
  have il : itemD (.list (ls.map PyData.str)) (.int line) = some (.str ls[line]) := item_ln (by simp [hline])
  have gi := gl ls[line] (List.getElem_mem hline)
  obtain ⟨d1, d2, d3⟩ := split_conds (s := ls[line]) (by have := gi.2; omega) (c := 32)
  have hwn : (Txt.split ls[line] sp).length ≤ ls[line].length + 1 := split_len _ 32
  have gw : ∀ p ∈ Txt.split ls[line] sp, PyData.strOk p = true ∧ p.length ≤ ls[line].length := fun p hp => ⟨split_ok gi.1 hp, split_le hp⟩
  have lll : ls[line].length ≤ 100 := by
    have : ls[line] ∈ Txt.split t nl := by rw [hls]; exact List.getElem_mem hline
    have := split_le this
    omega
  generalize ls[line] = lw at il gi d1 d2 d3 hwn gw lll
  generalize hws : Txt.split lw sp = ws at d3 hwn gw
  have wne : ws ≠ [] := by rw [← hws]; exact split_ne _ _
  have hw1 : 1 ≤ ws.length := List.length_pos_iff.mpr wne
  have x1 : sliceD (.list (ws.map .str)) none (some 1) = some (.list ((ws.take 1).map .str)) := lst_to (k := 1) hw1
  -- the words joined
  have gj : ∀ p ∈ ws.take 1 ++ ws.tail.reverse, PyData.strOk p = true ∧ p.length ≤ 100 := fun p hp => by
    have : p ∈ ws := (List.mem_append.mp hp).elim (fun h => List.mem_of_mem_take h) fun h => List.mem_of_mem_tail (List.mem_reverse.mp h)
    have := gw p this
    exact ⟨this.1, by omega⟩
  have nj : (ws.take 1 ++ ws.tail.reverse).length ≤ 101 := by simp; omega
  have sj := sum_le (M := 100) (ws.take 1 ++ ws.tail.reverse) fun p hp => (gj p hp).2
  have mj : 100 * (ws.take 1 ++ ws.tail.reverse).length ≤ 100 * 101 := Nat.mul_le_mul_left _ nj
  have jw := join_good2 (c := 32) (by omega) (fun p hp => (gj p hp).1) (by omega)
  have lj := join_len sp (ws.take 1 ++ ws.tail.reverse)
  have l1 : sp.length = 1 := rfl
  rw [l1] at lj
  have lj2 : (Str.join sp (ws.take 1 ++ ws.tail.reverse)).length ≤ 10201 := by omega
  generalize hzz : Str.join sp (ws.take 1 ++ ws.tail.reverse) = zz at jw lj2
  have gk : ∀ p ∈ ls.take line ++ zz :: ls.drop (line + 1), PyData.strOk p = true := fun p hp => by
    rcases List.mem_append.mp hp with h | h
    · exact (gt line p h).1
    · rcases List.mem_cons.mp h with h | h
      · rw [h]; exact jw.2.1
      · exact (gd (line + 1) p h).1
  have s1 := sum_le (M := 300) (ls.take line) fun p hp => (gt line p hp).2
  have s2 := sum_le (M := 300) (ls.drop (line + 1)) fun p hp => (gd (line + 1) p hp).2
  have n1 : 300 * (ls.take line).length ≤ 300 * 101 := Nat.mul_le_mul_left _ (by simp; omega)
  have n2 : 300 * (ls.drop (line + 1)).length ≤ 300 * 101 := Nat.mul_le_mul_left _ (by simp; omega)
  have n3 : (ls.take line ++ zz :: ls.drop (line + 1)).length ≤ 300 := by simp; omega
  have sk : ((ls.take line ++ zz :: ls.drop (line + 1)).map (·.length)).sum + (ls.take line ++ zz :: ls.drop (line + 1)).length ≤ 100000 := by
    rw [List.map_append, List.sum_append, List.map_cons, List.sum_cons]
    omega
  have jg := join_good2 (c := 10) (by omega) gk sk
  have jj := jg.1
  rw [List.map_append, List.map_take, List.map_cons, List.map_drop] at jj
  have jv := jw.1
  rw [List.map_append, List.map_take, List.map_reverse, List.map_tail] at jv
  have z1 : min 1 ws.length + (ws.length - 1) ≤ sizeLine := sz (by omega)
  have z2 : min line ls.length + 1 ≤ sizeLine := sz (by omega)
  have z3 : min line ls.length + 1 + (ls.length - (line + 1)) ≤ sizeLine := sz (by omega)
  obtain rfl : way = 5 := by omega
  simp [il, hws, d1, d2, d3, x1, e1, e4, z1, z2, z3, jv, jj]
  exact q _ _ jg.2.1 jg.2.2
end PD
set_option linter.all false
set_option maxRecDepth 100000
set_option maxHeartbeats 1000000
/-! k15: values that are no texts. -/
namespace PD
open PySem PySem.Spec PyProof.Rows L2
mutual
theorem eqv_refl : ∀ d : D, clean d = true → PyData.eqv d d = true
  | .none, _ => by rw [PyData.eqv]
  | .bool b, _ => by simp [PyData.eqv]
  | .int i, _ => by simp [PyData.eqv]
  | .str x, _ => by simp [PyData.eqv]
  | .list xs, h => by rw [PyData.eqv]; exact eqvAll_refl xs (by simpa using h)
  | .tuple xs, h => by rw [PyData.eqv]; exact eqvAll_refl xs (by simpa using h)
  | .dict l, h => by simp at h
theorem eqvAll_refl : ∀ ds : List D, cleans ds = true → PyData.eqvAll ds ds = true
  | [], _ => by rw [PyData.eqvAll]
  | d :: ds, h => by
    simp only [cleans_cons, Bool.and_eq_true] at h
    rw [PyData.eqvAll, eqv_refl d h.1, eqvAll_refl ds h.2]; rfl
end
theorem eq_self_of {d : D} (h : clean d = true) (hd : d.depth ≤ 60) : eqD d d = some true := by
  rw [eqD_of (shaped_of h (by omega)) (shaped_of h (by omega)), eqv_refl d h]
theorem depth_encLd {L : Ld} : (encLd L).depth ≤ 3 := by
  have h1 : PyData.depthAll (L.hs.map .int) ≤ 0 := depth_sub fun x hx => by
    obtain ⟨i, _, rfl⟩ := List.mem_map.mp hx
    simp [PyData.depth]
  have h2 : PyData.depthAll (L.gs.map encGt) ≤ 1 := depth_sub fun x hx => by
    obtain ⟨g, _, rfl⟩ := List.mem_map.mp hx
    simp [encGt, PyData.depth, PyData.depthAll]
  simp only [encLd, PyData.depth, PyData.depthAll]
  omega
theorem row_long {L : Ld} (o : L.Ok) : ∀ r ∈ wrows L, 3 ≤ r.length := by
  intro r hr
  have := o.l3
  simp only [wrows, List.mem_cons, List.mem_map] at hr
  rcases hr with rfl | rfl | ⟨g, _, rfl⟩
  · simp [wLand]; omega
  · simp [wRain]
  · simp [wGate]
theorem no_short {s : Str} {r : List Str} (h : r ∈ rowsOf s) (hr : r.length < 3) : ∀ L : Ld, L.Ok → wtext L ≠ s := fun L o e => by
  rw [← e, rows_of o] at h
  have := row_long o r h
  omega
theorem no_few {s : Str} (h : (rowsOf s).length < 2) : ∀ L : Ld, L.Ok → wtext L ≠ s := fun L o e => by
  rw [← e, rows_of o] at h
  simp [wrows] at h
  omega
theorem split_end (x : Str) : Txt.split (x ++ nl) nl = Txt.split x nl ++ [Str.empty] := by
  have hj := StrLaws.join_split x nl
  have hf := StrLaws.split_free x 10
  have : Str.join nl (Txt.split x nl ++ [Str.empty]) = x ++ nl := by
    apply str_ext
    rw [tl_join, List.map_append]
    have h2 : tl x = J 10 ((Txt.split x nl).map tl) := by rw [← tl_join, hj]
    rw [tl_append, h2]
    have gen : ∀ ps : List (List Nat), ps ≠ [] → J 10 (ps ++ [[]]) = J 10 ps ++ [10] := by
      intro ps
      induction ps with
      | nil => intro h; exact absurd rfl h
      | cons p ps ih =>
        intro _
        cases ps with
        | nil => simp [J]
        | cons q r =>
          have := ih (by simp)
          simp only [List.cons_append, J] at this ⊢
          rw [this]; simp
    exact gen _ (by simpa using split_ne x nl)
  rw [← this]
  refine split_one (by simp) fun p hp => ?_
  rcases List.mem_append.mp hp with h | h
  · exact hf p h
  · rw [List.mem_singleton.mp h]; decide
theorem split_begin (x : Str) : Txt.split (nl ++ x) nl = Str.empty :: Txt.split x nl := by
  have hj := StrLaws.join_split x nl
  have hf := StrLaws.split_free x 10
  have : Str.join nl (Str.empty :: Txt.split x nl) = nl ++ x := by
    cases h : Txt.split x nl with
    | nil => exact absurd h (split_ne x nl)
    | cons p r =>
      rw [Str.join, ← h, hj, Str.empty_append]
      simp
  rw [← this]
  refine split_one (by simp) fun p hp => ?_
  rcases List.mem_cons.mp hp with h | h
  · rw [h]; decide
  · exact hf p h
theorem split_empty : Txt.split Str.empty sp = [Str.empty] := by decide +kernel
theorem no_end {x : Str} : ∀ L : Ld, L.Ok → wtext L ≠ x ++ nl := no_short (r := [Str.empty]) (by rw [rowsOf, split_end, List.map_append, List.map_cons, split_empty]; simp) (by simp)
theorem no_begin {x : Str} : ∀ L : Ld, L.Ok → wtext L ≠ nl ++ x := no_short (r := [Str.empty]) (by rw [rowsOf, split_begin, List.map_cons, split_empty]; simp) (by simp)
def odds3 (t : Str) : List D := [.none, .int 5, .str "", .str "land 1 2 3", .str "rain 0 1", .tuple [.str t], .str (t ++ nl), .str (nl ++ t)]
theorem odds3_no (n : Nat) {t : Str} (ot : PyData.strOk t = true) (lt : t.length ≤ 100) : ∀ x ∈ odds3 t, callP P0 (n + 6) 179 [x] = .err 6 := by
  have onl : PyData.strOk nl = true := by decide +kernel
  have c : ∀ s ∈ (["", "land 1 2 3", "rain 0 1"] : List Str), PyData.strOk s = true ∧ s.length ≤ 100 ∧ (rowsOf s).length < 2 := by decide +kernel
  have l1 : nl.length = 1 := rfl
  intro x hx
  simp only [odds3, List.mem_cons, List.not_mem_nil, or_false] at hx
  rcases hx with rfl | rfl | rfl | rfl | rfl | rfl | rfl | rfl
  · exact read_odd (n + 5) rfl
  · exact read_odd (n + 5) rfl
  · have k := c "" (by simp)
    exact read_no n k.1 (by omega) (no_few k.2.2)
  · have k := c "land 1 2 3" (by simp)
    exact read_no n k.1 (by omega) (no_few k.2.2)
  · have k := c "rain 0 1" (by simp)
    exact read_no n k.1 (by omega) (no_few k.2.2)
  · exact read_odd (n + 5) rfl
  · exact read_no n (append_ok ot onl) (by rw [Str.length_append]; omega) no_end
  · exact read_no n (append_ok onl ot) (by rw [Str.length_append]; omega) no_begin
def odds4 : List Str := ["land 1 2\nrain 0 1", "land 1 2 3\nrain 1 0", "land 1 2 3\nrain 0 3", "land 1 2 10\nrain 0 2", "land 1 2 3\nrain 0 2\ngate 0 0 open", "land 1 2 3\nrain 0 2\ngate 0 1 wide", "land  1 2 3\nrain 0 2", "land 1 2 3\nrain 0 2 \ngate 0 1 open"]
set_option maxHeartbeats 0 in
theorem odds4_no : ∀ x ∈ odds4, callP P0 40 179 [.str x] = .err 6 := by
  intro x hx
  simp only [odds4, List.mem_cons, List.not_mem_nil, or_false] at hx
  rcases hx with rfl | rfl | rfl | rfl | rfl | rfl | rfl | rfl <;> kernel_rfl
set_option maxHeartbeats 0 in
theorem last_yes : callP P0 40 179 [.str "land 9 0 9\nrain 1 1\ngate 1 9 shut"] = .ok (.tuple [.tuple [.int 9, .int 0, .int 9], .tuple [.tuple [.int 1, .int 9, .bool true]], .tuple [.int 1, .int 1]]) := by kernel_rfl
theorem odds5_no (n : Nat) {L : Ld} {t : Str} (ot : PyData.strOk t = true) : ∀ x ∈ ([.none, .str t, .tuple [.tuple (L.hs.map .int), .tuple (L.gs.map encGt)]] : List D), callP P0 (n + 6) 177 [x] = .err 1 := by
  intro x hx
  simp only [List.mem_cons, List.not_mem_nil, or_false] at hx
  rcases hx with rfl | rfl | rfl
  · exact x_land_text n _ (by simp) rfl
  · exact x_land_text n _ (by simpa using ot) rfl
  · have := clean_encLd (L := L)
    simp only [encLd, clean_tup, cleans_cons, Bool.and_eq_true] at this
    exact x_land_text n _ (by simp [this.1, this.2.1]) rfl
end PD
set_option linter.all false
set_option maxRecDepth 100000
set_option maxHeartbeats 1000000
set_option exponentiation.threshold 1000000
/-! k15: the plain law. -/
namespace PD
open PySem PySem.Spec PyProof.Rows L2
theorem law_k15 (ns : List Int) (hl : ns.length ≤ 63) : callP P0 41 184 [.list (ns.map .int)] = .ok (.bool true) := by
  rw [run_law_k15]
  apply fin_ok
  have en1 : (tab P0 40).en 1 = some ("land value" : Str) := en_1
  have en6 : (tab P0 40).en 6 = some ("text value" : Str) := en_6
  have q1 : eqD (.tuple [.none, .str ("text value" : Str)]) (.tuple [.none, .str ("text value" : Str)]) = some true := by decide +kernel
  have q2 : eqD (.tuple [.none, .str ("land value" : Str)]) (.tuple [.none, .str ("land value" : Str)]) = some true := by decide +kernel
  have qe : ("" : Str) = Str.empty := by decide +kernel
  have q3 : ∀ L : Ld, eqD (.tuple [encLd L, .str Str.empty]) (.tuple [encLd L, .str Str.empty]) = some true := fun L => by
    refine eq_self_of (by simp [clean_encLd]; decide +kernel) ?_
    have := depth_encLd (L := L)
    simp only [PyData.depth, PyData.depthAll]
    omega
  have q4 : ∀ L : Ld, eqD (encLd L) (encLd L) = some true := fun L => eq_self_of clean_encLd (by have := depth_encLd (L := L); omega)
  rw [L_law_k15, qe, nl_eq]
  simp [show rngOk 0 8 = true by decide]
  refine W_forL (I := fun r σ B => ∃ (ks : List Nat) (s1 s2 s3 s4 s5 s6 s7 s8 s9 : Sl), r = ks.map (fun (j : Nat) => PyData.int (j : Int)) ∧ (∀ k ∈ ks, k < 8) ∧ bagFree 2 [.val (.list (ns.map .int)), s1, s2, s3, s4, s5, s6, s7, s8, s9, .emp] = true ∧ σ = [.val (.list (ns.map .int)), s1, s2, s3, s4, s5, s6, s7, s8, s9, .emp]) ?_ ?_ _ _ _ ⟨List.range 8, .emp, .emp, .emp, .emp, .emp, .emp, .emp, .emp, .emp, rfl, by simp, rfl, rfl⟩
  · rintro d r σ B ⟨ks, s1, s2, s3, s4, s5, s6, s7, s8, s9, e1, h1, hf, rfl⟩
    cases ks with
    | nil => simp at e1
    | cons k ks =>
      simp only [List.map_cons, List.cons.injEq] at e1
      obtain ⟨rfl, rfl⟩ := e1
      have hk := h1 k (by simp)
      obtain ⟨xs, hxs⟩ := v_law_bag 37 ns k (by omega) (by omega)
      have hf2 : bagFree 2 [.val (.list (ns.map .int)), .val (.int k), s2, s3, s4, s5, s6, s7, s8, s9, .emp] = true := by
        simp [bagFree, isBag] at hf ⊢
        exact hf.2
      obtain ⟨hb5, hb6, hb7, hb8, hb9⟩ : isBag s5 = false ∧ isBag s6 = false ∧ isBag s7 = false ∧ isBag s8 = false ∧ isBag s9 = false := by
        simp [bagFree, isBag] at hf
        exact ⟨hf.2.2.2.1, hf.2.2.2.2.1, hf.2.2.2.2.2.1, hf.2.2.2.2.2.2.1, hf.2.2.2.2.2.2.2⟩
      simp [hxs, ints_map, hf2]
      refine W_law_land 37 fun L B' o => ?_
      have ot := wtext_ok o.toOk
      have lt := wtext_len o.toOk
      simp [v_law_text 39 L o.toOk, v_land_text 34 L o.toOk, read_yes 34 o.toOk, ot, q4, show rngOk 0 14 = true by decide]
      generalize htt : wtext L = t at ot lt
      refine W_forL (I := fun r σ B => ∃ (t5 t6 t7 t8 : Sl), isBag t5 = false ∧ isBag t6 = false ∧ isBag t7 = false ∧ isBag t8 = false ∧ σ = [.val (.list (ns.map .int)), .val (.int k), .bag, .val (encLd L), .val (.str t), t5, t6, t7, t8, s9, .emp]) ?_ ?_ _ _ _ ⟨s5, s6, s7, s8, hb5, hb6, hb7, hb8, rfl⟩
      · rintro d r σ B ⟨t5, t6, t7, t8, b5, b6, b7, b8, rfl⟩
        have hd : isBag (.val d) = false := rfl
        simp
        refine W_bent 37 ot lt fun s B2 os ls => ?_
        simp [v_law_read 34 os ls]
        by_cases hx : ∃ L' : Ld, L'.Ok ∧ wtext L' = s
        · obtain ⟨L', o', rfl⟩ := hx
          have ha := ans_yes o' rfl
          have he : ev (tab P0 40) (.call 179 (.cons (.var 6) .nil)) (noBag [.val (.list (ns.map .int)), .val (.int k), .bag, .val (encLd L), .val (.str t), .val d, .val (.str (wtext L')), .val (ans (wtext L')), t8, s9, .emp]) [] = .ok (encLd L', []) := ev_call_ok (evs_var rfl evs_nil) (read_yes 34 o')
          simp only [W_ltold_ok he]
          rw [ha]
          simp [encLd]
          have := q3 L'
          simp only [encLd] at this
          simp [this]
          exact ⟨_, rfl, _, rfl, _, rfl, _, rfl, rfl, rfl, rfl, rfl⟩
        · have hno : ∀ L' : Ld, L'.Ok → wtext L' ≠ s := fun L' o' e => hx ⟨L', o', e⟩
          have ha := ans_no hno
          have he : ev (tab P0 40) (.call 179 (.cons (.var 6) .nil)) (noBag [.val (.list (ns.map .int)), .val (.int k), .bag, .val (encLd L), .val (.str t), .val d, .val (.str s), .val (ans s), t8, s9, .emp]) [] = .err 6 := ev_call_err (evs_var rfl evs_nil) (read_no 34 os ls hno)
          simp only [W_ltold_err he en6]
          rw [ha]
          simp [q1]
          exact ⟨_, rfl, _, rfl, _, rfl, _, rfl, rfl, rfl, rfl, rfl⟩
      · rintro σ B ⟨t5, t6, t7, t8, b5, b6, b7, b8, rfl⟩
        simp
        have l1 : nl.length = 1 := rfl
        have z1 : t.length + nl.length ≤ sizeLine := le_sz (by omega)
        have z2 : nl.length + t.length ≤ sizeLine := le_sz (by omega)
        simp [z1, z2]
        have hod := odds3_no 34 ot lt
        rw [odds3, qe] at hod
        refine W_forL (I := fun r σ B => ∃ (t9 : Sl), (∀ x ∈ r, callP P0 40 179 [x] = .err 6) ∧ isBag t9 = false ∧ σ = [.val (.list (ns.map .int)), .val (.int k), .bag, .val (encLd L), .val (.str t), t5, t6, t7, t8, t9, .emp]) ?_ ?_ _ _ _ ⟨s9, hod, hb9, rfl⟩
        · rintro x r σ B ⟨t9, hx, b9, rfl⟩
          have he : ev (tab P0 40) (.call 179 (.cons (.var 9) .nil)) (noBag [.val (.list (ns.map .int)), .val (.int k), .bag, .val (encLd L), .val (.str t), t5, t6, t7, t8, .val x, .emp]) [] = .err 6 := ev_call_err (evs_var rfl evs_nil) (hx x (by simp))
          simp
          simp only [W_ltold_err he en6]
          simp [q1]
          exact ⟨fun y hy => hx y (by simp [hy]), rfl⟩
        · rintro σ B ⟨t9, hx, b9, rfl⟩
          have sl : sliceD (encLd L) none (some 2) = some (.tuple [.tuple (L.hs.map .int), .tuple (L.gs.map encGt)]) := rfl
          simp [sl]
          have hod5 := odds5_no 34 (L := L) ot
          refine W_forL (I := fun r σ B => ∃ (t9 : Sl), (∀ x ∈ r, callP P0 40 177 [x] = .err 1) ∧ isBag t9 = false ∧ σ = [.val (.list (ns.map .int)), .val (.int k), .bag, .val (encLd L), .val (.str t), t5, t6, t7, t8, t9, .emp]) ?_ ?_ _ _ _ ⟨t9, hod5, b9, rfl⟩
          · rintro x r σ B ⟨t9, hx, b9, rfl⟩
            have he : ev (tab P0 40) (.call 177 (.cons (.var 9) .nil)) (noBag [.val (.list (ns.map .int)), .val (.int k), .bag, .val (encLd L), .val (.str t), t5, t6, t7, t8, .val x, .emp]) [] = .err 1 := ev_call_err (evs_var rfl evs_nil) (hx x (by simp))
            simp
            simp only [W_ltold_err he en1]
            simp [q2]
            exact ⟨fun y hy => hx y (by simp [hy]), rfl⟩
          · rintro σ B ⟨t9, hx, b9, rfl⟩
            simp only [Wf_nx, W_snil]
            refine ⟨ks, _, _, _, _, _, _, _, _, _, rfl, fun k hk => h1 k (by simp [hk]), ?_, rfl⟩
            simp only [bagFree, List.all_cons, List.all_nil, b5, b6, b7, b8, b9]
            simp [isBag]
  · rintro σ B ⟨ks, s1, s2, s3, s4, s5, s6, s7, s8, s9, e1, h1, hf, rfl⟩
    simp [sizeLine_val]
    have h4 : ∀ x ∈ (odds4.map PyData.str), callP P0 40 179 [x] = .err 6 := by
      intro x hx
      obtain ⟨y, hy, rfl⟩ := List.mem_map.mp hx
      exact odds4_no y hy
    refine W_forL (I := fun r σ B => ∃ (t4 : Sl) (t10 : Sl), (∀ x ∈ r, callP P0 40 179 [x] = .err 6) ∧ σ = [.val (.list (ns.map .int)), s1, s2, s3, t4, s5, s6, s7, s8, s9, t10]) ?_ ?_ _ _ _ ⟨_, _, h4, rfl⟩
    · rintro x r σ B ⟨t4, t10, hx, rfl⟩
      have he : ev (tab P0 40) (.call 179 (.cons (.var 4) .nil)) (noBag [.val (.list (ns.map .int)), s1, s2, s3, .val x, s5, s6, s7, s8, s9, t10]) [] = .err 6 := ev_call_err (evs_var rfl evs_nil) (hx x (by simp))
      simp
      simp only [W_ltold_err he en6]
      simp [q1]
      exact fun y hy => hx y (by simp [hy])
    · rintro σ B ⟨t4, t10, hx, rfl⟩
      have q9 : eqD (.tuple [.tuple [.int 9, .int 0, .int 9], .tuple [.tuple [.int 1, .int 9, .bool true]], .tuple [.int 1, .int 1]]) (.tuple [.tuple [.int 9, .int 0, .int 9], .tuple [.tuple [.int 1, .int 9, .bool true]], .tuple [.int 1, .int 1]]) = some true := by rfl
      simp [last_yes, q9]
end PD
open PySem PySem.W PyProof.Rows
theorem PySem.Challenge.cw_anyrain_k15_texts_of_lands_holds : PySem.Challenge.rw_anyrain_k15_texts_of_lands.Holds :=
  K15.holds_of (n := 40) (by decide) fun ns hl _ => PD.law_k15 ns hl
