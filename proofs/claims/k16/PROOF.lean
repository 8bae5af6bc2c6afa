import PyProof.Rows.All
import Wide.All
import OpenK.AllK
import Wide.FinOn
import PySem.Challenge.RW_anyrain_k16_worked_examples
import HandS.HeadNt
import HandS.Head0
import HandS.Head1
import HandS.Head2
import HandS.Hot
import HandS.HotCalls
import HandS.Iter
import HandS.Zip
import HandS.Comp
import HandS.ForMost
import HandS.Exc
import HandS.ExcCtx
import HandS.WordsExc
import HandS.Wide
import HandS.TupAny
import HandS.TupMul
import HandS.Style
import HandS.Walk
import HandS.IsInst
import HandS.Lambda
import HandS.Deep
import HandS.Conv
import HandS.StrMore
import HandS.SortInts
import HandS.TupSets
import HandS.Dict
import KE.GoesMore
import KE.KRevSl
import HandS.List
import HandS.SetFor
import HandS.Strs
import HandS.FStr
import HandS.Defaults
import HandS.HeadHook4
import HandS.HeadWalk
import HandS.ExcIs
import HandS.ExcBuiltin
import HandS.OwnEq
import HandS.Star
import HandS.Property
import HandS.ClsMeth
import HandS.CallLocal
import PyProof.Rows.Range3
import KE.KOpsOwn
import HandS.GenList
import HandS.GenYield
import HandS.MakeKwOnly
set_option linter.all false
set_option maxRecDepth 100000
set_option maxHeartbeats 1000000
/-! A head told by defs at any address and one Bool; what a class says of its methods. -/
namespace PD
open PySem PySem.Spec PyProof.Rows L2
/-! ### the Hook -/
structure SaysY (fa : List He.Fa) (fn : List He5.DefA) (ex : PySem.W.Frag → Bool) (K : PySem.W.Frag) : Prop where
  a : He5.SaysA fa fn K
  more : ex K = true
abbrev AlY : Type := He.AlD × Bool
/-- what an object names -/
def kidsY (g : Addr → Option Obj) (a : Addr) : List Addr := match g a with
  | some o => He.refsD o
  | none => []
/-- those that are not in the mask, each once -/
def addY : List Addr → List Addr → Nat → List Addr × Nat
  | [], acc, m => (acc, m)
  | c :: cs, acc, m => match Nat.beq ((m >>> c) % 2) 1 with
    | true => addY cs acc m
    | false => addY cs (c :: acc) (m ||| (1 <<< c))
/-- level by level, each address once -/
def growY (g : Addr → Option Obj) : Nat → List Addr → Nat → List Addr
  | 0, fr, _ => fr
  | n + 1, fr, m => fr ++ growY g n (addY (fr.flatMap (kidsY g)) [] m).1 (addY (fr.flatMap (kidsY g)) [] m).2
/-- the interpreter's own statics, then what the names reach in n steps -/
def asY (g : Addr → Option Obj) (n : Nat) : List Addr := cStatics :: growY g n [mainGlobals] (1 <<< mainGlobals)
def obsY (n : Nat) (fa : List He.Fa) (fn : List He5.DefA) (ex : PySem.W.Frag → Bool) (g : Addr → Option Obj) : AlY := (He5.obsA fa fn (He.frG g (asY g n)), ex (He.frG g (asY g n)))
def hookY (n : Nat) (fa : List He.Fa) (fn : List He5.DefA) (ex : PySem.W.Frag → Bool) : PySem.W.Hook where
  α := AlY
  obs := fun s => obsY n fa fn ex s.heap.get?
  val := fun _ => (He5.valA fn, true)
  says := fun _ h => ∃ K : PySem.W.Frag, K.In h ∧ SaysY fa fn ex K
  of := fun _ s e => ⟨_, He.frG_in, congrArg (fun z : AlY => z.1) e, congrArg (fun z : AlY => z.2) e⟩
  keeps := fun _ _ _ ⟨K, hK, c⟩ k => ⟨K, PySem.W.Frag.In.keeps hK k, c⟩
theorem obsY_eq {n : Nat} {fa : List He.Fa} {fn : List He5.DefA} {ex : PySem.W.Frag → Bool} {g : Addr → Option Obj} {s : Shared} (h : ∀ a, g a = s.heap.get? a) : obsY n fa fn ex g = (hookY n fa fn ex).obs s := by
  have e : g = s.heap.get? := funext h
  rw [e] <;> rfl
section
variable {fa : List He.Fa} {fn : List He5.DefA} {ex : PySem.W.Frag → Bool} {K : PySem.W.Frag}
theorem SaysY.fact (c : SaysY fa fn ex K) {f : He.Fa} (h : f ∈ fa) : f.ok K = true := by
  obtain ⟨i, hi, e⟩ := List.mem_iff_getElem.mp h
  exact c.a.fact i (f := f) (by rw [List.getElem?_eq_getElem hi, e])
theorem SaysY.def_ (c : SaysY fa fn ex K) {d : He5.DefA} (h : d ∈ fn) : ∃ fd, FunD K d.name d.qual d.params d.body d.scope (d.dvs K) (d.kws K) (d.at_ K) fd := by
  obtain ⟨i, hi, e⟩ := List.mem_iff_getElem.mp h
  exact c.a.def_ i (d := d) (by rw [List.getElem?_eq_getElem hi, e])
end
/-! ### a class's methods -/
def methB (K : PySem.W.Frag) (C : Addr) (m : Str) : Bool := He.eqO (PySem.W.findIn K (.ref C) m) (some (some (.ref (He.ma K C m)))) && PySem.W.isFn K (.ref (He.ma K C m)) && PySem.W.fnIn K (He.ma K C m) && PySem.W.keepIn K (.ref (He.ma K C m))
def propB (K : PySem.W.Frag) (C : Addr) (f : Str) : Bool := He.eqO (PySem.W.findIn K (.ref C) f) (some (some (.ref (He.ma K C f)))) && He.eqO (PySem.W.specialIn K (.ref (He.ma K C f)) "__get__") (some (some (.builtin "property.__get__"))) && decide (PySem.W.takesIn K (.ref (He.ma K C f)) = some true) &&
  (match PySem.W.recIn K (He.ma K C f) "property" with
    | some (.ref _ :: _) => true
    | _ => false)
def opMB (K : PySem.W.Frag) (C : Addr) (op : Operator) (T : String) : Bool := methB K C (PySem.dunder op.info.2) && PySem.W.selfFirst K C && He.eqO (PySem.W.findIn K (.ref C) (dunderR op.info.2)) (some none) && (PySem.W.findIn K (.type T) (PySem.dunder op.info.2)).isSome && (PySem.W.findIn K (.type T) (dunderR op.info.2)).isSome && decide (PySem.W.subIn K (.type T) (.ref C) = some false)
def cmB (K : PySem.W.Frag) (C : Addr) (m : Str) : Bool := PySem.W.readsIn K C (.type "type") && He.eqO (PySem.W.specialIn K (.ref C) "__getattribute__") (some (some (.builtin "type.__getattribute__"))) && He5.wrapB K C "classmethod" "classmethod.__get__" m && PySem.W.fnIn K (He5.wf K C "classmethod" m)
def clsB (K : PySem.W.Frag) (C : Addr) (fields : List Str) : Bool := PySem.W.plainGet K C Str.empty && (PySem.W.hasDictIn K C && (PySem.W.plainOver K C && He.eqO (PySem.W.findIn K (.ref C) "__setattr__") (some (some (.builtin "object.__setattr__"))))) && fields.all fun f => He.eqO (PySem.W.findIn K (.ref C) f) (some none)
def mkB (K : PySem.W.Frag) (C : Addr) : Bool := PySem.W.makesIn K C && He.eqO (PySem.W.findIn K (.ref C) "__init__") (some (some (.ref (He.ma K C "__init__")))) && PySem.W.isFn K (.ref (He.ma K C "__init__")) && PySem.W.keepIn K (.ref C)
end PD
set_option Elab.async false
set_option linter.all false
set_option maxRecDepth 100000
set_option maxHeartbeats 0
namespace K16
open PySem PySem.Spec PyProof.Rows L2 PD
def top (i : Nat) : Stmt := PySem.Challenge.pw_anyrain_k16_worked_examples.main.body.getD i (.Pass ⟨0, 0, 0, 0⟩)
def cst (i k : Nat) : Stmt := match top i with
  | .ClassDef (body := b) .. => b.getD k (.Pass ⟨0, 0, 0, 0⟩)
  | _ => .Pass ⟨0, 0, 0, 0⟩
/-- a def of the top -/
def dB (x nm : Str) (st : Stmt) : He5.DefA := ⟨fun K => He.ga K x, nm, nm, defArgs st, defBody st, defScope st, [], []⟩
def fnR0 : List He5.DefA := [dB "is_plain" "is_plain" (top 13), dB "is_whole" "is_whole" (top 14), dB "are_heights" "are_heights" (top 15), dB "is_gate" "is_gate" (top 16), dB "is_land" "is_land" (top 17), dB "is_step" "is_step" (top 18), dB "fits_script" "fits_script" (top 19), dB "divisor_of" "divisor_of" (top 20), dB "is_amount" "is_amount" (top 21), dB "ground_of" "ground_of" (top 22), dB "first_shut" "first_shut" (top 23), dB "need_land" "need_land" (top 24), dB "need_script" "need_script" (top 25), dB "need_both" "need_both" (top 26), dB "need_amount" "need_amount" (top 27), dB "need_number" "need_number" (top 28), dB "is_script" "is_script" (top 29), dB "grounds" "grounds" (top 30), dB "lowest" "lowest" (top 33), dB "plus" "plus" (top 34), dB "minus" "minus" (top 35), dB "times" "times" (top 36), dB "shared" "shared" (top 37), dB "quotient" "quotient" (top 38), dB "is_less" "is_less" (top 39)]
def fnR1 : List He5.DefA := [dB "least" "least" (top 40), dB "runs_of" "runs_of" (top 43), dB "lower_sides" "lower_sides" (top 44), dB "highest_first" "highest_first" (top 45), dB "run_with" "run_with" (top 46), dB "inflows" "inflows" (top 47), dB "rates" "rates" (top 48), dB "risen" "risen" (top 49), dB "ground_at" "ground_at" (top 50), dB "is_wet" "is_wet" (top 51), dB "comes_late" "comes_late" (top 52), dB "turned" "turned" (top 53), dB "stepped" "stepped" (top 54), dB "waits_of" "waits_of" (top 55), dB "times_left" "times_left" (top 56), dB "begun" "begun" (top 57), dB "course_from" "course_from" (top 58), dB "course" "course" (top 59), dB "pieces_of" "pieces_of" (top 60), dB "state_then" "state_then" (top 61), dB "at_amount" "at_amount" (top 62), dB "wet_at" "wet_at" (top 63), dB "line_of" "line_of" (top 64), dB "form_of" "form_of" (top 65), dB "lowest_common" "lowest_common" (top 66)]
def fnR2 : List He5.DefA := [dB "need_all" "need_all" (top 68), dB "surfaces" "surfaces" (top 69), dB "wet" "wet" (top 70), dB "word_of" "word_of" (top 71), dB "runs" "runs" (top 72), dB "steps_done" "steps_done" (top 73), dB "range_of" "range_of" (top 75), dB "joined_rows" "joined_rows" (top 76), dB "ranges_true" "ranges_true" (top 77), dB "in_order" "in_order" (top 78), dB "parts_between" "parts_between" (top 79), dB "level_forms" "level_forms" (top 81), dB "done_ranges" "done_ranges" (top 82), dB "cut_where" "cut_where" (top 83), dB "middle" "middle" (top 84), dB "wet_parts" "wet_parts" (top 85), dB "wet_ranges" "wet_ranges" (top 86), dB "are_joined" "are_joined" (top 87), dB "joined" "joined" (top 88), dB "dry_in" "dry_in" (top 90), dB "dry_until" "dry_until" (top 91), dB "all_lots" "all_lots" (top 92), dB "least_gates" "least_gates" (top 93), dB "lines_then" "lines_then" (top 95), dB "parted_at" "parted_at" (top 96)]
def fnR3 : List He5.DefA := [dB "need_two" "need_two" (top 97), dB "alike" "alike" (top 98), dB "parting" "parting" (top 99), dB "idle_steps" "idle_steps" (top 100), dB "fallen_more" "fallen_more" (top 103), dB "set_at" "set_at" (top 104), dB "is_fact" "is_fact" (top 108), dB "need_facts" "need_facts" (top 109), dB "cuts_of" "cuts_of" (top 110), dB "is_true" "is_true" (top 111), dB "fact_rows" "fact_rows" (top 112), dB "amounts" "amounts" (top 113), dB "telling" "telling" (top 114), dB "land_text" "land_text" (top 118), dB "figures_in" "figures_in" (top 119), dB "read_land" "read_land" (top 120), dB "need_result" "need_result" (top 123), dB "longer" "longer" (top 124), dB "shorter" "shorter" (top 125), dB "is_wet_ever" "is_wet_ever" (top 126), dB "_law_flooding_right" "_law_flooding_right" (top 128), dB "_law_ranges_right" "_law_ranges_right" (top 129), dB "written_rains" "written" (top 105), dB "written_texts" "written" (top 116)]
def faR0 : List He.Fa := [.glo "is_plain", .glo "is_whole", .glo "are_heights", .glo "is_gate", .glo "is_land", .glo "is_step", .glo "fits_script", .glo "divisor_of", .glo "is_amount", .glo "ground_of", .glo "first_shut", .glo "need_land", .glo "need_script", .glo "need_both", .glo "need_amount", .glo "need_number", .glo "is_script", .glo "grounds", .glo "lowest", .glo "plus", .glo "minus", .glo "times", .glo "shared", .glo "quotient", .glo "is_less"]
def faR1 : List He.Fa := [.glo "least", .glo "runs_of", .glo "lower_sides", .glo "highest_first", .glo "run_with", .glo "inflows", .glo "rates", .glo "risen", .glo "ground_at", .glo "is_wet", .glo "comes_late", .glo "turned", .glo "stepped", .glo "waits_of", .glo "times_left", .glo "begun", .glo "course_from", .glo "course", .glo "pieces_of", .glo "state_then", .glo "at_amount", .glo "wet_at", .glo "line_of", .glo "form_of", .glo "lowest_common"]
def faR2 : List He.Fa := [.glo "need_all", .glo "surfaces", .glo "wet", .glo "word_of", .glo "runs", .glo "steps_done", .glo "range_of", .glo "joined_rows", .glo "ranges_true", .glo "in_order", .glo "parts_between", .glo "level_forms", .glo "done_ranges", .glo "cut_where", .glo "middle", .glo "wet_parts", .glo "wet_ranges", .glo "are_joined", .glo "joined", .glo "dry_in", .glo "dry_until", .glo "all_lots", .glo "least_gates", .glo "lines_then", .glo "parted_at"]
def faR3 : List He.Fa := [.glo "need_two", .glo "alike", .glo "parting", .glo "idle_steps", .glo "fallen_more", .glo "set_at", .glo "is_fact", .glo "need_facts", .glo "cuts_of", .glo "is_true", .glo "fact_rows", .glo "amounts", .glo "telling", .glo "land_text", .glo "figures_in", .glo "read_land", .glo "need_result", .glo "longer", .glo "shorter", .glo "is_wet_ever", .glo "_law_flooding_right", .glo "_law_ranges_right", .glo "written_rains", .glo "written_texts"]
def excs : List (Str × Nat) := [("RainError", 0), ("InvalidLand", 1), ("InvalidScript", 2), ("InvalidAmount", 3), ("InvalidNumber", 4), ("InvalidFacts", 5), ("InvalidText", 6), ("TooLate", 7), ("NothingToUndo", 8)]
def blts : List Str := ["TypeError", "abs", "all", "any", "bool", "classmethod", "enumerate", "int", "isinstance", "len", "list", "max", "property", "range", "set", "sorted", "str", "tuple", "zip"]
def m_init_Rain : He5.DefA := ⟨fun K => He.ma K (He.ga K "Rain") "__init__", "__init__", "Rain.__init__", defArgs (cst 102 0), defBody (cst 102 0), defScope (cst 102 0), [], []⟩
def m_moved_Rain : He5.DefA := ⟨fun K => He.ma K (He.ga K "Rain") "moved", "moved", "Rain.moved", defArgs (cst 102 1), defBody (cst 102 1), defScope (cst 102 1), [], []⟩
def m_fall_Rain : He5.DefA := ⟨fun K => He.ma K (He.ga K "Rain") "fall", "fall", "Rain.fall", defArgs (cst 102 2), defBody (cst 102 2), defScope (cst 102 2), [], []⟩
def m_shut_Rain : He5.DefA := ⟨fun K => He.ma K (He.ga K "Rain") "shut", "shut", "Rain.shut", defArgs (cst 102 4), defBody (cst 102 4), defScope (cst 102 4), [], []⟩
def m_set_gate_Rain : He5.DefA := ⟨fun K => He.ma K (He.ga K "Rain") "set_gate", "set_gate", "Rain.set_gate", defArgs (cst 102 5), defBody (cst 102 5), defScope (cst 102 5), [], []⟩
def m_fallen_Rain : He5.DefA := ⟨fun K => He5.wf K (He.ga K "Rain") "property" "fallen", "fallen", "Rain.fallen", defArgs (cst 102 8), defBody (cst 102 8), defScope (cst 102 8), [], []⟩
def m_surfaces_Rain : He5.DefA := ⟨fun K => He5.wf K (He.ga K "Rain") "property" "surfaces", "surfaces", "Rain.surfaces", defArgs (cst 102 9), defBody (cst 102 9), defScope (cst 102 9), [], []⟩
def m_gates_Rain : He5.DefA := ⟨fun K => He5.wf K (He.ga K "Rain") "property" "gates", "gates", "Rain.gates", defArgs (cst 102 10), defBody (cst 102 10), defScope (cst 102 10), [], []⟩
def m_undo_Rain : He5.DefA := ⟨fun K => He.ma K (He.ga K "Rain") "undo", "undo", "Rain.undo", defArgs (cst 102 11), defBody (cst 102 11), defScope (cst 102 11), [], []⟩
def m_lines_Rain : He5.DefA := ⟨fun K => He.ma K (He.ga K "Rain") "lines", "lines", "Rain.lines", defArgs (cst 102 13), defBody (cst 102 13), defScope (cst 102 13), [], [("only", .non)]⟩
def m_getitem_Rain : He5.DefA := ⟨fun K => He.ma K (He.ga K "Rain") "__getitem__", "__getitem__", "Rain.__getitem__", defArgs (cst 102 14), defBody (cst 102 14), defScope (cst 102 14), [], []⟩
def m_contains_Rain : He5.DefA := ⟨fun K => He.ma K (He.ga K "Rain") "__contains__", "__contains__", "Rain.__contains__", defArgs (cst 102 15), defBody (cst 102 15), defScope (cst 102 15), [], []⟩
def m_len_Rain : He5.DefA := ⟨fun K => He.ma K (He.ga K "Rain") "__len__", "__len__", "Rain.__len__", defArgs (cst 102 16), defBody (cst 102 16), defScope (cst 102 16), [], []⟩
def m_bool_Rain : He5.DefA := ⟨fun K => He.ma K (He.ga K "Rain") "__bool__", "__bool__", "Rain.__bool__", defArgs (cst 102 17), defBody (cst 102 17), defScope (cst 102 17), [], []⟩
def m_init_Land : He5.DefA := ⟨fun K => He.ma K (He.ga K "Land") "__init__", "__init__", "Land.__init__", defArgs (cst 122 1), defBody (cst 122 1), defScope (cst 122 1), [], []⟩
def m_valley_Land : He5.DefA := ⟨fun K => He5.wf K (He.ga K "Land") "classmethod" "valley", "valley", "Land.valley", defArgs (cst 122 2), defBody (cst 122 2), defScope (cst 122 2), [], []⟩
def m_source_Land : He5.DefA := ⟨fun K => He5.wf K (He.ga K "Land") "property" "source", "source", "Land.source", defArgs (cst 122 3), defBody (cst 122 3), defScope (cst 122 3), [], []⟩
def m_add_Land : He5.DefA := ⟨fun K => He.ma K (He.ga K "Land") "__add__", "__add__", "Land.__add__", defArgs (cst 122 4), defBody (cst 122 4), defScope (cst 122 4), [], []⟩
def m_sub_Land : He5.DefA := ⟨fun K => He.ma K (He.ga K "Land") "__sub__", "__sub__", "Land.__sub__", defArgs (cst 122 5), defBody (cst 122 5), defScope (cst 122 5), [], []⟩
def m_mul_Land : He5.DefA := ⟨fun K => He.ma K (He.ga K "Land") "__mul__", "__mul__", "Land.__mul__", defArgs (cst 122 6), defBody (cst 122 6), defScope (cst 122 6), [], []⟩
def m_invert_Land : He5.DefA := ⟨fun K => He.ma K (He.ga K "Land") "__invert__", "__invert__", "Land.__invert__", defArgs (cst 122 7), defBody (cst 122 7), defScope (cst 122 7), [], []⟩
def m_call_Land : He5.DefA := ⟨fun K => He.ma K (He.ga K "Land") "__call__", "__call__", "Land.__call__", defArgs (cst 122 10), defBody (cst 122 10), defScope (cst 122 10), [], []⟩
def m_getitem_Land : He5.DefA := ⟨fun K => He.ma K (He.ga K "Land") "__getitem__", "__getitem__", "Land.__getitem__", defArgs (cst 122 11), defBody (cst 122 11), defScope (cst 122 11), [], []⟩
def m_len_Land : He5.DefA := ⟨fun K => He.ma K (He.ga K "Land") "__len__", "__len__", "Land.__len__", defArgs (cst 122 12), defBody (cst 122 12), defScope (cst 122 12), [], []⟩
def m_contains_Land : He5.DefA := ⟨fun K => He.ma K (He.ga K "Land") "__contains__", "__contains__", "Land.__contains__", defArgs (cst 122 13), defBody (cst 122 13), defScope (cst 122 13), [], []⟩
def m_bool_Land : He5.DefA := ⟨fun K => He.ma K (He.ga K "Land") "__bool__", "__bool__", "Land.__bool__", defArgs (cst 122 14), defBody (cst 122 14), defScope (cst 122 14), [], []⟩
def fn : List He5.DefA := (fnR0 ++ fnR1 ++ fnR2 ++ fnR3) ++ [dB "_law_rest_right" "_law_rest_right" (top 130), dB "_law_rain_right" "_law_rain_right" (top 131), dB "law" "law" (top 132), m_init_Rain, m_moved_Rain, m_fall_Rain, m_shut_Rain, m_set_gate_Rain, m_fallen_Rain, m_surfaces_Rain, m_gates_Rain, m_undo_Rain, m_lines_Rain, m_getitem_Rain, m_contains_Rain, m_len_Rain, m_bool_Rain, m_init_Land, m_valley_Land, m_source_Land, m_add_Land, m_sub_Land, m_mul_Land, m_invert_Land, m_call_Land, m_getitem_Land, m_len_Land, m_contains_Land, m_bool_Land]
def fa : List He.Fa := (faR0 ++ faR1 ++ faR2 ++ faR3) ++ [.glo "_law_rest_right", .glo "_law_rain_right", .glo "law", .glo "Land", .glo "Rain", .glo "NOTHING", .glo "HIGH", .int "MOST_STEPS" 6] ++ excs.map (fun p => He.Fa.glo p.1) ++ excs.map (fun p => He.Fa.exc p.1) ++ blts.map He.Fa.free
def loose0 : List Str := ["_wall", "is_plain", "is_whole", "are_heights", "is_gate", "is_land", "is_step", "fits_script", "divisor_of", "is_amount", "ground_of", "first_shut", "need_land", "need_script", "need_both", "need_amount", "need_number", "is_script", "grounds", "lowest", "plus", "minus", "times", "shared", "quotient"]
def loose1 : List Str := ["is_less", "least", "runs_of", "lower_sides", "highest_first", "run_with", "inflows", "rates", "risen", "ground_at", "is_wet", "comes_late", "turned", "stepped", "waits_of", "times_left", "begun", "course_from", "course", "pieces_of", "state_then", "at_amount", "wet_at", "line_of", "form_of"]
def loose2 : List Str := ["lowest_common", "need_all", "surfaces", "wet", "word_of", "runs", "steps_done", "range_of", "joined_rows", "ranges_true", "in_order", "parts_between", "level_forms", "done_ranges", "cut_where", "middle", "wet_parts", "wet_ranges", "are_joined", "joined", "dry_in", "dry_until", "all_lots", "least_gates", "lines_then"]
def loose3 : List Str := ["parted_at", "need_two", "alike", "parting", "idle_steps", "fallen_more", "set_at", "is_fact", "need_facts", "cuts_of", "is_true", "fact_rows", "amounts", "telling", "written", "land_text", "figures_in", "read_land", "need_result", "longer", "shorter", "is_wet_ever", "_law_flooding_right", "_law_ranges_right", "_law_rest_right"]
def loose4 : List Str := ["_law_rain_right", "RainError", "InvalidLand", "InvalidScript", "InvalidAmount", "InvalidNumber", "InvalidFacts", "InvalidText", "TooLate", "NothingToUndo", "Rain", "Land", "MOST_STEPS", "NOTHING", "HIGH", "written_rains", "written_texts"]
def loose : List Str := loose0 ++ loose1 ++ loose2 ++ loose3 ++ loose4
def exA (K : PySem.W.Frag) : List Bool := [He.tupB K "NOTHING" [.int 0, .int 1], He.tupB K "HIGH" [.int 1, .int 0], clsB K (He.ga K "Land") ["kept"], clsB K (He.ga K "Rain") ["place", "now", "past"], mkB K (He.ga K "Land"), mkB K (He.ga K "Rain")]
def exL (K : PySem.W.Frag) : List Bool := [methB K (He.ga K "Land") "__add__", methB K (He.ga K "Land") "__sub__", methB K (He.ga K "Land") "__mul__", methB K (He.ga K "Land") "__invert__", methB K (He.ga K "Land") "__call__", methB K (He.ga K "Land") "__getitem__", methB K (He.ga K "Land") "__len__", methB K (He.ga K "Land") "__contains__", methB K (He.ga K "Land") "__bool__", propB K (He.ga K "Land") "source", opMB K (He.ga K "Land") .Mult "tuple", opMB K (He.ga K "Land") .Add "int", opMB K (He.ga K "Land") .Sub "int", cmB K (He.ga K "Land") "valley"]
def exR (K : PySem.W.Frag) : List Bool := [methB K (He.ga K "Rain") "moved", methB K (He.ga K "Rain") "fall", methB K (He.ga K "Rain") "shut", methB K (He.ga K "Rain") "set_gate", methB K (He.ga K "Rain") "undo", methB K (He.ga K "Rain") "lines", methB K (He.ga K "Rain") "__getitem__", methB K (He.ga K "Rain") "__contains__", methB K (He.ga K "Rain") "__len__", methB K (He.ga K "Rain") "__bool__", propB K (He.ga K "Rain") "fallen", propB K (He.ga K "Rain") "surfaces", propB K (He.ga K "Rain") "gates"]
def ex (K : PySem.W.Frag) : Bool := (exA K).all id && (exL K).all id && (exR K).all id
abbrev R : PySem.W.OpenRow := PySem.W.OpenLaw.row PySem.Challenge.rw_anyrain_k16_worked_examples
abbrev hk : PySem.W.Hook := hookY 6 fa fn ex
def ob (s : PySem.W.SharedT) : AlY := obsY 6 fa fn ex (HandSHeadRun.getT s)
theorem ob_eq (s : PySem.W.SharedT) : ob s = hk.obs s.abs := obsY_eq (HandSHeadRun.getT_eq s)
/-- what the names reach, off the tree -/
def KK (s : PySem.W.SharedT) : PySem.W.Frag := He.frG (HandSHeadRun.getT s) (asY (HandSHeadRun.getT s) 6)
open PySem.W PySem.Calls HandSHeadRun in
/-- where the top ends -/
noncomputable def EE (w : World) (os : PySem.OsState) : Option PySem.W.SharedT := endF (stepQ (denQ tabQ) R.prog w) 12000 R.prog w os
open PySem.W PySem.Calls HandSHeadRun in
theorem rA (w : World) (os : PySem.OsState) : (EE w os).map (fun s => (looksF R.prog (boot_heap w.params) s.abs, seenQ (PySem.W.view R.prog [132]) loose (importedModules R.prog.main.body) (fun s => xlAt (PySem.W.view R.prog [132]) [] s && recOk R.toRowW.records s) s.abs)) = some (true, openGood (PySem.W.view R.prog [132]) loose) := by kernel_rfl
theorem rB (w : World) (os : PySem.OsState) : (EE w os).map (fun s => (fa.all fun f => f.ok (KK s), fn.all fun d => d.ok (KK s), fn.map fun d => He5.fnA (KK s) (d.at_ (KK s)), ex (KK s))) = some (true, true, fn.map He5.DefA.val, true) := by kernel_rfl
theorem run (w : World) : HandSHeadRun.RunEq R (PySem.W.view R.prog [132]) hk ob 12000 loose w := by
  intro os
  have a := rA w os
  have b := rB w os
  unfold EE at a b
  obtain ⟨s, hs, e1⟩ := Option.map_eq_some_iff.mp a
  rw [hs, Option.map_some] at b
  rw [hs, Option.map_some]
  have e2 := Option.some.inj b
  simp only [Prod.mk.injEq] at e1 e2
  have e5 : ob s = hk.val w := by
    show (((fa.all fun f => f.ok (KK s)) && fn.all fun d => d.ok (KK s), fn.map fun d => He5.fnA (KK s) (d.at_ (KK s))), ex (KK s)) = (((true, fn.map He5.DefA.val) : He.AlD), true)
    rw [e2.1, e2.2.1, e2.2.2.1, e2.2.2.2]
    rfl
  rw [e1.1, e1.2, e5]
end K16
set_option linter.all false
set_option maxRecDepth 100000
set_option maxHeartbeats 1000000
/-! A tuple from its end: t[::-1]. -/
namespace PD
open PySem PySem.Spec PyProof.Rows L2
theorem fm_same {α β : Type} {f g : α → Option β} : ∀ {l : List α}, (∀ k ∈ l, f k = g k) → l.filterMap f = l.filterMap g
  | [], _ => rfl
  | a :: l, h => by
    rw [List.filterMap_cons, List.filterMap_cons, h a List.mem_cons_self, fm_same fun k hk => h k (List.mem_cons_of_mem _ hk)]
theorem rev_all (ys : Array Value) : ((List.range ys.size).filterMap fun (k : Nat) => ys[(((ys.size : Int) - 1) + (k : Int) * (-1)).toNat]?).toArray = ys.toList.reverse.toArray := by
  congr 1
  have e : ∀ k ∈ List.range ys.size, ys[(((ys.size : Int) - 1) + (k : Int) * (-1)).toNat]? = ys.toList.reverse.toArray[k]? := fun k hk => by
    have hk := List.mem_range.mp hk
    have e2 : ys.toList.reverse.toArray[k]? = ys.toList.reverse[k]? := by simp
    rw [e2, List.getElem?_reverse (by simpa using hk), ← Array.getElem?_toList]
    congr 1
    rw [Array.length_toList]
    omega
  rw [fm_same e]
  have := PySem.W.krv_all ys.toList.reverse.toArray
  rw [List.size_toArray, List.length_reverse, Array.length_toList] at this
  exact this
section
open HT
variable {prog : Program} {w : World} {A : Around} {E : Value → Shared → Prop} {s : Shared}
theorem part_ {v : Value} {o : Option Int} {Q : Option Int → Shared → Prop} (p : IsPart v o) (h : Q o s) : wpAny (model prog w) A (Builtin.Slice.slicePartIndex v) Q E s := slicePart_ p h
theorem applied_rev {a : Addr} {vl vu vs : Value} {n : Nat} {Q : Int × Int × Nat → Shared → Prop} (hs : s.heap.IsSliceOf a vl vu vs) (pl : IsPart vl none) (pu : IsPart vu none) (ps : IsPart vs (some (-1))) (h : Q ((n : Int) - 1, -1, n) s) :
    wpAny (model prog w) A (Builtin.Slice.sliceApplied (.ref a) (pure (n : Int))) Q E s := by
  obtain ⟨o, ho, hc, hd⟩ := id hs
  unfold Builtin.Slice.sliceApplied Builtin.Slice.sliceFields
  refine wpAny_bind (wpAny_bind (wpAny_field ho hd (x := vl) rfl (wpAny_bind (wpAny_field ho hd (x := vu) rfl (wpAny_bind (wpAny_field ho hd (x := vs) rfl (wpAny_pure ?_)))))))
  refine wpAny_bind (part_ ps ?_)
  show wpAny _ _ (if ((-1 : Int) == 0) = true then _ else _) _ _ s
  rw [if_neg (by decide)]
  refine wpAny_bind (part_ pl (wpAny_bind (part_ pu (wpAny_bind (wpAny_pure ?_)))))
  have e1 : Builtin.Slice.sliceAdjust none none (-1) (n : Int) = ((n : Int) - 1, -1) := by
    unfold Builtin.Slice.sliceAdjust
    simp
  have e2 : Builtin.Slice.slicePlaces ((n : Int) - 1) (-1) (-1) = n := by
    unfold Builtin.Slice.slicePlaces
    have h1 : ¬ ((-1 : Int) > 0) := by decide
    simp only [h1, if_false]
    by_cases hn : (n : Int) - 1 > -1
    · rw [if_pos hn, show (- -1 : Int) = 1 by decide, Int.ediv_one]; omega
    · rw [if_neg hn]; omega
  show wpAny _ _ (match Builtin.Slice.sliceAdjust none none (-1) (n : Int) with | (lo, hi) => pure (lo, (-1 : Int), Builtin.Slice.slicePlaces lo hi (-1))) _ _ s
  rw [e1]
  show wpAny _ _ (pure ((n : Int) - 1, (-1 : Int), Builtin.Slice.slicePlaces ((n : Int) - 1) (-1) (-1))) _ _ s
  rw [e2]
  exact wpAny_pure h
theorem item_rev {t a : Addr} {ys : Array Value} {vl vu vs : Value} {Q : Value → Shared → Prop} (ht : IsTup s.heap t ys) (hs : s.heap.IsSliceOf a vl vu vs) (pl : IsPart vl none) (pu : IsPart vu none) (ps : IsPart vs (some (-1))) (hz : ys.size ≤ sizeLine)
    (h : Q (.ref s.heap.objs.size) { s with heap := s.heap.push { cls := .type "tuple", data := .seq ys.toList.reverse.toArray } }) : wpAny (model prog w) A (getItem (.ref t) (.ref a)) Q E s := by
  have hz' : sizeOk (.seq ys.toList.reverse.toArray) := by
    show ys.toList.reverse.toArray.size ≤ sizeLine
    rw [List.size_toArray, List.length_reverse, Array.length_toList]
    exact hz
  have hT : s.TypeIs (.ref a) "slice" := by
    obtain ⟨o, ho, hc, hd⟩ := id hs
    exact ⟨o, ho, hc⟩
  unfold getItem
  try with_reducible refine wpAny_holding ?_
  first | refine wpAny_bind (wpAny_pure ?_) | skip
  refine wpAny_bind (wpAny_sequenceKey ht.typeIs (by decide) (wpAny_bind (wpAny_callSpecial?_slot (name := Str.ofString "__getitem__") ht.typeIs PyProof.Rows.slot_tuple_getitem (wpAny_call_entry PyProof.Rows.slot_tuple_getitem ht.typeIs entry_tuple_getitem ?_ (args_tuple_getitem _ _)))))
  show wpAny _ _ (Builtin.Tuple.tupleItemsOf (.ref t) >>= _) _ _ s
  refine wpAny_bind (tupleItemsOf_ ht (wpAny_bind (wpAny_typeOf hT ?_)))
  rw [if_pos (by decide)]
  refine wpAny_bind (applied_rev hs pl pu ps ?_)
  have hno : ¬ ((((ys.size : Int) - 1) == 0 && (-1 : Int) == 1 && ys.size == ys.size) = true) := by simp
  show wpAny _ _ (if (((ys.size : Int) - 1) == 0 && (-1 : Int) == 1 && ys.size == ys.size) = true then _ else _) _ _ s
  rw [if_neg hno, rev_all]
  first
    | exact wpAny_bind (m := Builtin.Tuple.tupleExact _) (wpAny_newObj_type (wpAny_pure ⟨_, rfl, wpAny_pure h⟩) hz')
    | exact wpAny_bind (m := Builtin.Tuple.tupleExact _) (wpAny_newObj_type (wpAny_bind (wpAny_pure (wpAny_pure ⟨_, rfl, wpAny_pure h⟩))) hz')
    | exact wpAny_bind (wpAny_bind (m := Builtin.Tuple.tupleExact _) (wpAny_newObj_type (wpAny_pure (wpAny_pure ⟨_, rfl, wpAny_pure h⟩)) hz'))
    | exact wpAny_bind (wpAny_bind (m := Builtin.Tuple.tupleExact _) (wpAny_newObj_type (wpAny_pure ⟨_, rfl, wpAny_pure h⟩) hz'))
end
/-- a list or a tuple from its end -/
def tRvA (K : PySem.W.Frag) (te : TE) : TE := fun σ H Q => te σ H fun x H1 => ∃ a xs, x = .ref a ∧ ((SqL K H1 a xs ∧ ∀ p, H1 p = none → Q (.ref p) (upd H1 p (.lst xs.reverse))) ∨ (SqT K H1 a xs ∧ ∀ p, H1 p = none → Q (.ref p) (upd H1 p (.tup xs.reverse))))
theorem pe_rvA {X : Cx} {te : TE} {e : Expr} {k : Nat} {p1 p2 p3 pos : Pos} (he : PE X e te) : PE X (.Subscript e (.Slice none none (some (.UnaryOp .USub (.Constant (.int 1) k p1) p2)) p3) pos) (tRvA X.K te) := by
  refine ⟨fun pins s σ H Q I h => Subscript_ (thn (he.run pins s σ H _ I h) fun v s1 ⟨x, H1, I1, r1, q1⟩ => ?_)⟩
  obtain ⟨a, xs, ex, q1⟩ := q1
  subst ex
  cases r1
  have hst : PO X (some (.UnaryOp .USub (.Constant (.int 1) k p1) p2)) (tPart (tUn (rU fun i => .int (-i)) (tC (.int 1)))) := po_some (pe_un un_neg pe_int)
  refine wpAny_Slice (thn (po_none.run pins s1 σ H1 (fun o G => o = none ∧ G = H1) I1 ⟨rfl, rfl⟩) fun vl s2 ⟨l, H2, I2, pl, el, e2⟩ => ?_)
  subst el e2
  refine thn (po_none.run pins s2 σ H2 (fun o G => o = none ∧ G = H2) I2 ⟨rfl, rfl⟩) fun vu s3 ⟨u, H3, I3, pu, eu, e3⟩ => ?_
  subst eu e3
  refine thn (hst.run pins s3 σ H3 (fun o G => o = some (-1) ∧ G = H3) I3 ⟨1, rfl, -1, rfl, rfl, rfl⟩) fun vs s4 ⟨o, H4, I4, ps, eo, e4⟩ => ?_
  subst eo e4
  have I5 : Inv X pins σ H4 { s4 with heap := s4.heap.push { cls := .type "slice", data := .fields #[vl, vu, vs] } } := I4.kept (t' := s4.toks) fun b ob q => Heap.get?_push_of_some _ q
  have fr := I5.hok.fresh (Nat.le_refl _)
  rcases q1 with ⟨hx, q⟩ | ⟨hx, q⟩
  · obtain ⟨its, r, ht, hz⟩ := I5.list hx
    have hl := r.length
    show wpAny (model X.prog X.w) X.A (subscriptTail e (.Slice none none (some (.UnaryOp .USub (.Constant (.int 1) k p1) p2)) p3) (.ref a) (.ref s4.heap.objs.size)) _ X.xe _
    refine tail_any (ops := [.ref a, .ref s4.heap.objs.size]) ht.isList.typeIs (PySem.slot_list_getitem.lookup) ?_ (by with_unfolding_all rfl)
    refine wpAny_getItem_list_slice ht.isList (Heap.IsSliceOf.new _ vl vu vs) pl pu ps (by decide) ?_ (by rw [List.size_toArray]; omega)
    rw [PySem.W.krv_pick]
    exact ⟨.ref _, _, I5.laid (t' := s4.toks) (o := .lst xs.reverse) (fun b ob q => Heap.get?_push_of_some _ q) (Nat.le_refl _) ⟨by rw [List.length_reverse]; exact hz, _, 0, r.reverse, Heap.get?_push_size _ rfl⟩, rfl, q _ fr⟩
  · obtain ⟨its, r, ht, hz⟩ := I5.tuple hx
    have hl := r.length
    show wpAny (model X.prog X.w) X.A (subscriptTail e (.Slice none none (some (.UnaryOp .USub (.Constant (.int 1) k p1) p2)) p3) (.ref a) (.ref s4.heap.objs.size)) _ X.xe _
    refine tail_any (ops := [.ref a, .ref s4.heap.objs.size]) ht.typeIs PyProof.Rows.slot_tuple_getitem.lookup ?_ (by with_unfolding_all rfl)
    refine item_rev ht (Heap.IsSliceOf.new _ vl vu vs) pl pu ps (by rw [List.size_toArray]; omega) ?_
    exact ⟨.ref _, _, I5.laid (t' := s4.toks) (o := .tup xs.reverse) (fun b ob q => Heap.get?_push_of_some _ q) (Nat.le_refl _) ⟨by rw [List.length_reverse]; exact hz, _, r.reverse, ⟨_, Heap.get?_push_size _ rfl, rfl, _, rfl⟩⟩, rfl, q _ fr⟩
end PD
set_option linter.all false
set_option maxRecDepth 100000
/-! A small evaluator over plain data: what the bodies of the text's defs compute, with no heap in sight. -/
namespace PD
open PySem
abbrev D := PyData
/-- an outcome: nothing is said, a value, an error of a class by its number -/
inductive R (α : Type) where
  | stuck
  | ok (a : α)
  | err (c : Nat)
/-- the numbers of the bag that is drawn from -/
abbrev Bg := List Int
abbrev M (α : Type) := R (α × Bg)
@[inline] def R.bind {α β : Type} (x : R α) (f : α → R β) : R β := match x with
  | .stuck => .stuck
  | .ok a => f a
  | .err c => .err c
/-- an error is not let out -/
def R.quiet {α : Type} : R α → R α
  | .err _ => .stuck
  | x => x
@[inline] def M.bind {α β : Type} (x : M α) (f : α → Bg → M β) : M β := match x with
  | .stuck => .stuck
  | .ok (a, b) => f a b
  | .err c => .err c
def ofO {α : Type} (b : Bg) : Option α → M α
  | some a => .ok (a, b)
  | none => .stuck
inductive BinO where | add | sub | mul | fdiv | mod | pow
inductive CmpO where | eq | ne | lt | le | gt | ge | isin | notin | is | isnot
inductive BltO where | len | abs | int | str | bool | tuple | list | sorted | sset | sum | any | all | neg | rev | fmt | revt | lrng
inductive Blt2 where | max | min
inductive Ty where | int | bool | str | tuple | list
inductive Tgt where
  | nm (i : Nat)
  | tp (ts : List Tgt)
def isSc : D → Bool
  | .none | .bool _ | .int _ | .str _ => true
  | _ => false
/-- a list in the order of its items, each item once -/
def insI (x : Int) : List Int → List Int
  | [] => [x]
  | y :: r => if x ≤ y then x :: y :: r else y :: insI x r
def sortI : List Int → List Int
  | [] => []
  | x :: r => insI x (sortI r)
def ints? : List D → Option (List Int)
  | [] => some []
  | .int i :: r => (ints? r).map (i :: ·)
  | _ :: _ => none
def bools? : List D → Option (List Bool)
  | [] => some []
  | .bool i :: r => (bools? r).map (i :: ·)
  | _ :: _ => none
def strs? : List D → Option (List Str)
  | [] => some []
  | .str i :: r => (strs? r).map (i :: ·)
  | _ :: _ => none
def rows? : List D → Option (List (List Int))
  | [] => some []
  | .tuple xs :: r => (ints? xs).bind fun x => (rows? r).map (x :: ·)
  | _ :: _ => none
def lexLe : List Int → List Int → Bool
  | [], _ => true
  | _ :: _, [] => false
  | x :: xs, y :: ys => if x < y then true else if y < x then false else lexLe xs ys
def insR (x : List Int) : List (List Int) → List (List Int)
  | [] => [x]
  | y :: r => if lexLe x y then x :: y :: r else y :: insR x r
def sortR : List (List Int) → List (List Int)
  | [] => []
  | x :: r => insR x (sortR r)
/-- each once, the first stays -/
def onceI : List Int → List Int
  | [] => []
  | x :: r => if x ∈ r then onceI r else x :: onceI r
def onceR : List (List Int) → List (List Int)
  | [] => []
  | x :: r => if x ∈ r then onceR r else x :: onceR r
def tupI (xs : List Int) : D := .tuple (xs.map .int)
def ixD (n : Nat) (i : Int) : Option Nat := if 0 ≤ i then (if i < n then some i.toNat else none) else if -(n : Int) ≤ i then some (i + n).toNat else none
def cutAt (n d : Nat) : Option Int → Nat
  | none => d
  | some v => if v < 0 then (v + (n : Int)).toNat else min v.toNat n
def cutL {α : Type} (xs : List α) (lo hi : Option Int) : List α := (xs.drop (cutAt xs.length 0 lo)).take (cutAt xs.length xs.length hi - cutAt xs.length 0 lo)
def smallLog (i j : Int) : Bool := Nat.blt (i.natAbs.log2 + j.natAbs.log2) 1000000
def binD : BinO → D → D → Option D
  | .add, .int i, .int j => some (.int (i + j))
  | .add, .str x, .str y => if x.length + y.length ≤ sizeLine then some (.str (x ++ y)) else none
  | .add, .list x, .list y => if x.length + y.length ≤ sizeLine then some (.list (x ++ y)) else none
  | .add, .tuple x, .tuple y => if x.length + y.length ≤ sizeLine then some (.tuple (x ++ y)) else none
  | .sub, .int i, .int j => some (.int (i - j))
  | .mul, .int i, .int j => if smallLog i j then some (.int (i * j)) else none
  | .mul, .tuple x, .int k => if x ≠ [] ∧ 1 ≤ k ∧ k ≤ 1000 ∧ x.length ≤ 1000 then some (.tuple (List.replicate k.toNat x).flatten) else none
  | .fdiv, .int i, .int j => if 0 < j ∧ j.natAbs.log2 < 9000 then some (.int (i / j)) else none
  | .mod, .int i, .int j => if 0 < j then some (.int (i % j)) else none
  | .pow, .int i, .int j => if 0 ≤ j ∧ j ≤ 1000000 ∧ i.natAbs < 2 ^ 64 then some (.int (i ^ j.toNat)) else none
  | _, _, _ => none
def inD (a : D) : D → Option Bool
  | .list bs => if SeqAt.shaped a && SeqAt.shaped (.list bs) then some (bs.any fun y => PyData.eqv y a) else none
  | .tuple bs => if SeqAt.shaped a && SeqAt.shaped (.tuple bs) then some (bs.any fun y => PyData.eqv y a) else none
  | .str y => (match a with
    | .str x => some (!(Builtin.Str.occurrences y x 0 y.length 1).isEmpty)
    | _ => none)
  | _ => none
def isNn : D → Bool
  | .none => true
  | _ => false
def isD : D → D → Option Bool
  | a, .none => some (isNn a)
  | .bool a, .bool b => some (decide (a = b))
  | _, _ => none
def eqD (a b : D) : Option Bool := if SeqAt.shaped a && SeqAt.shaped b then some (PyData.eqv a b) else none
def cmpD : CmpO → D → D → Option Bool
  | .eq, a, b => eqD a b
  | .ne, a, b => (eqD a b).map (!·)
  | .lt, .int i, .int j => some (decide (i < j))
  | .le, .int i, .int j => some (decide (i ≤ j))
  | .gt, .int i, .int j => some (decide (j < i))
  | .ge, .int i, .int j => some (decide (j ≤ i))
  | .isin, a, b => inD a b
  | .notin, a, b => (inD a b).map (!·)
  | .is, a, b => isD a b
  | .isnot, a, b => (isD a b).map (!·)
  | _, _, _ => none
def sortD (ds : List D) : Option D := (ints? ds).map fun ns => .list ((sortI ns).map .int)
/-- rows of d ints from 0 on, below 2^64: sorted by their code -/
def cBd : Int := 18446744073709551616
def insC (x : List Int) : List (List Int) → List (List Int)
  | [] => [x]
  | y :: r => if TS.code cBd x ≤ TS.code cBd y then x :: y :: r else y :: insC x r
def sortC : List (List Int) → List (List Int)
  | [] => []
  | x :: r => insC x (sortC r)
def rowsOk (d : Nat) (rs : List (List Int)) : Bool := decide (1 ≤ d) && decide (d ≤ 1000) && rs.all fun r => decide (r.length = d) && r.all fun m => decide (0 ≤ m) && decide (m < cBd)
def widthR (rs : List (List Int)) : Nat := (rs.headD []).length
def tupRows (rs : List (List Int)) : List D := rs.map tupI
def ssetD (ds : List D) : Option D := match ints? ds with
  | some ns => if ns.length < 60 then some (.list ((sortI (onceI ns)).map .int)) else none
  | none => (rows? ds).bind fun rs => if rs.length < 64 ∧ rowsOk (widthR rs) rs = true then some (.list (tupRows (sortC (onceR rs)))) else none
/-- of a list with one item at most, whatever it is -/
def sortL (ds : List D) : Option D := if ds.length < 2 then some (.list ds) else sortD ds
def rngOk (i j : Int) : Bool := decide (-(2 ^ 62) ≤ i) && decide (i < 2 ^ 62) && decide (-(2 ^ 62) ≤ j) && decide (j < 2 ^ 62) && decide (j - i < 1000000)
def rangeD (lo : Int) : Nat → List D
  | 0 => []
  | n + 1 => .int lo :: rangeD (lo + 1) n
def bltD : BltO → D → Option D
  | .len, .str x => if x.length ≤ sizeLine then some (.int x.length) else none
  | .len, .list x => some (.int x.length)
  | .len, .tuple x => some (.int x.length)
  | .abs, .int i => some (.int (if i < 0 then -i else i))
  | .neg, .int i => some (.int (-i))
  | .int, .int i => some (.int i)
  | .bool, .bool b => some (.bool b)
  | .int, .bool b => some (.int (if b then 1 else 0))
  | .int, .str a => (match PySem.intText? a with
    | some n => if a.length ≤ 640 then some (.int n) else none
    | none => none)
  | .str, .int i => if i.natAbs.log2 < 1920 then some (.str (toString i)) else none
  | .tuple, .list x => some (.tuple x)
  | .tuple, .tuple x => some (.tuple x)
  | .list, .list x => some (.list x)
  | .list, .tuple x => some (.list x)
  | .sorted, .list x => sortL x
  | .sorted, .tuple x => sortD x
  | .sset, .list x => ssetD x
  | .sum, .list x => (ints? x).map fun ns => .int ns.sum
  | .any, .list x => (bools? x).map fun bs => .bool (bs.any id)
  | .all, .list x => (bools? x).map fun bs => .bool (bs.all id)
  | .rev, .list x => some (.list x.reverse)
  | .rev, .tuple x => some (.tuple x.reverse)
  | .fmt, .int i => if i.natAbs.log2 < 1920 then some (.str (toString i)) else none
  | .fmt, .str y => if y.length ≤ sizeLine then some (.str y) else none
  | .revt, .list x => some (.list x.tail.reverse)
  | .lrng, .int j => if rngOk 0 j then some (.list (rangeD 0 j.toNat)) else none
  | _, _ => none
def blt2D : Blt2 → D → D → Option D
  | .max, .int i, .int j => some (.int (if j > i then j else i))
  | .min, .int i, .int j => some (.int (if j < i then j else i))
  | _, _, _ => none
def isiD : Ty → D → Option Bool
  | .int, .int _ | .int, .bool _ | .bool, .bool _ | .str, .str _ | .tuple, .tuple _ | .list, .list _ => some true
  | _, .dict _ => none
  | _, _ => some false
def itemD (a i : D) : Option D := match a, i with
  | .list x, .int k => (ixD x.length k).bind fun j => x[j]?
  | .tuple x, .int k => (ixD x.length k).bind fun j => x[j]?
  | _, _ => none
def sliceD (a : D) (lo hi : Option Int) : Option D := match a with
  | .list x => some (.list (cutL x lo hi))
  | .tuple x => some (.tuple (cutL x lo hi))
  | .str x => if x.length ≤ sizeLine then some (.str ⟨(cutL x.cps.toList lo hi).toArray⟩) else none
  | _ => none
def joinD (a : Str) (ds : List D) : Option D := (strs? ds).bind fun ys => if (ys.map (·.length)).sum + ys.length * a.length ≤ 16777216 then some (.str (Txt.join a ys)) else none
mutual
inductive ME where
  | var (i : Nat)
  | con (d : D)
  | gcon (g : Nat)
  | tup (es : MEs)
  | lst (es : MEs)
  | bin (o : BinO) (a b : ME)
  | nt (a : ME)
  | cmp (o : CmpO) (a b : ME)
  | chain (o o' : CmpO) (a b c : ME)
  | andv (a b : ME)
  | orv (a b : ME)
  | ite (c a b : ME)
  | ix (a b : ME)
  | sl (a : ME) (lo hi : MO)
  | call (f : Nat) (es : MEs)
  | callb (i f : Nat) (es : MEs)
  | blt (o : BltO) (a : ME)
  | blt2 (o : Blt2) (a b : ME)
  | isi (a : ME) (t : Ty)
  | bagne (i : Nat)
  | bagpop (i : Nat)
  | comp (elt : ME) (t : Tgt) (it : MI) (c : MO) (vs : List Nat)
  | join (sep a : ME)
  | split (a sep : ME)
  | lerr (e : ME)
  | ltold (e : ME)
  | lrep (es : MEs) (k : ME)
  | js (es : MEs)
  | dget (i : Nat) (k : ME)
  | fld (i : Nat) (x : Str)
inductive MEs where
  | nil
  | cons (e : ME) (r : MEs)
/-- an expression, or none -/
inductive MO where
  | no
  | so (e : ME)
inductive MI where
  | seq (e : ME)
  | rng1 (e : ME)
  | rng2 (a b : ME)
  | zip (a b : ME)
  | enum (a : ME)
end
/-- what stands in a slot: nothing, a value, a list that no one else holds, the bag -/
inductive Sl where
  | emp
  | val (d : D)
  | own (ds : List D)
  | bag
  | dic (kvs : List (List Int × D))
  | ins (a : Addr) (fs : List (Str × D))
abbrev SEnv := List Sl
mutual
def bindT : Tgt → D → SEnv → Option SEnv
  | .nm i, d, σ => some (σ.set i (.val d))
  | .tp ts, d, σ => (match d with
    | .tuple ds => bindTs ts ds σ
    | _ => none)
def bindTs : List Tgt → List D → SEnv → Option SEnv
  | [], [], σ => some σ
  | t :: ts, d :: ds, σ => (match bindT t d σ with
    | some σ' => bindTs ts ds σ'
    | none => none)
  | _, _, _ => none
end
/-- a key: a tuple of ints -/
def keyI : D → Option (List Int)
  | .tuple xs => ints? xs
  | _ => none
def getDk (kvs : List (List Int × D)) (k : List Int) : Option D := (kvs.find? fun x => decide (x.1 = k)).map (·.2)
/-- in its place, or at the end -/
def putDk (kvs : List (List Int × D)) (k : List Int) (d : D) : List (List Int × D) :=
  if (getDk kvs k).isSome then kvs.map (fun x => if x.1 = k then (x.1, d) else x) else kvs ++ [(k, d)]
/-- the tables: constants of the module, defs, defs that draw from the bag -/
structure Tab where
  gc : Nat → D
  en : Nat → Option Str
  call : Nat → List D → R D
  callb : Nat → List D → Bg → M D
def boolM {β : Type} (x : M D) (f : Bool → Bg → M β) : M β := x.bind fun d B => match d with
  | .bool b => f b B
  | _ => .stuck
def optB (B : Bg) : Option Bool → M D
  | some b => .ok (.bool b, B)
  | none => .stuck
def zipD : List D → List D → List D
  | x :: xs, y :: ys => .tuple [x, y] :: zipD xs ys
  | _, _ => []
def enumD : Nat → List D → List D
  | _, [] => []
  | n, x :: xs => .tuple [.int n, x] :: enumD (n + 1) xs
def seqD : D → Option (List D)
  | .list x => some x
  | .tuple x => some x
  | _ => none
/-- the turns of a comprehension -/
def compL (f : D → Bg → M (Option D)) : List D → Bg → M (List D)
  | [], B => .ok ([], B)
  | d :: ds, B => (f d B).bind fun o B1 => (compL f ds B1).bind fun r B2 => match o with
    | some x => .ok (x :: r, B2)
    | none => .ok (r, B2)
def wipeE (σ : SEnv) : List Nat → SEnv
  | [] => σ
  | v :: vs => (wipeE σ vs).set v .emp
def getV (σ : SEnv) (i : Nat) : Option D := match σ[i]? with
  | some (.val d) => some d
  | some (.own ds) => some (.list ds)
  | _ => none
/-- the bag put out of sight -/
def noBag (σ : SEnv) : SEnv := σ.map fun s => match s with
  | .bag => .emp
  | s => s
mutual
def ev (Γ : Tab) : ME → SEnv → Bg → M D
  | .var i, σ, B => ofO B (getV σ i)
  | .con d, _, B => .ok (d, B)
  | .gcon g, _, B => .ok (Γ.gc g, B)
  | .tup es, σ, B => (evs Γ es σ B).bind fun ds B => .ok (.tuple ds, B)
  | .lst es, σ, B => (evs Γ es σ B).bind fun ds B => .ok (.list ds, B)
  | .bin o a b, σ, B => (ev Γ a σ B).bind fun x B => (ev Γ b σ B).bind fun y B => ofO B (binD o x y)
  | .nt a, σ, B => boolM (ev Γ a σ B) fun b B => .ok (.bool (!b), B)
  | .cmp o a b, σ, B => (ev Γ a σ B).bind fun x B => (ev Γ b σ B).bind fun y B => optB B (cmpD o x y)
  | .chain o o' a b c, σ, B => (ev Γ a σ B).bind fun x B => (ev Γ b σ B).bind fun y B => match cmpD o x y with
    | some true => (ev Γ c σ B).bind fun z B => optB B (cmpD o' y z)
    | some false => .ok (.bool false, B)
    | none => .stuck
  | .andv a b, σ, B => boolM (ev Γ a σ B) fun x B => match x with
    | true => boolM (ev Γ b σ B) fun y B => .ok (.bool y, B)
    | false => .ok (.bool false, B)
  | .orv a b, σ, B => boolM (ev Γ a σ B) fun x B => match x with
    | true => .ok (.bool true, B)
    | false => boolM (ev Γ b σ B) fun y B => .ok (.bool y, B)
  | .ite c a b, σ, B => boolM (ev Γ c σ B) fun x B => match x with
    | true => ev Γ a σ B
    | false => ev Γ b σ B
  | .ix a b, σ, B => (ev Γ a σ B).bind fun x B => (ev Γ b σ B).bind fun y B => ofO B (itemD x y)
  | .sl a lo hi, σ, B => (ev Γ a σ B).bind fun x B => (evo Γ lo σ B).bind fun l B => (evo Γ hi σ B).bind fun h B => ofO B (sliceD x l h)
  | .call f es, σ, B => (evs Γ es σ B).bind fun ds B => (Γ.call f ds).bind fun d => .ok (d, B)
  | .callb i f es, σ, B => (match σ[i]? with
    | some .bag => (evs Γ es σ B).bind fun ds B => Γ.callb f ds B
    | _ => .stuck)
  | .blt o a, σ, B => (ev Γ a σ B).bind fun x B => ofO B (bltD o x)
  | .blt2 o a b, σ, B => (ev Γ a σ B).bind fun x B => (ev Γ b σ B).bind fun y B => ofO B (blt2D o x y)
  | .isi a t, σ, B => (ev Γ a σ B).bind fun x B => optB B (isiD t x)
  | .bagne i, σ, B => (match σ[i]? with
    | some .bag => .ok (.bool (!B.isEmpty), B)
    | _ => .stuck)
  | .bagpop i, σ, B => (match σ[i]?, B with
    | some .bag, x :: r => .ok (.int x, r)
    | _, _ => .stuck)
  | .comp elt t it c vs, σ, B => (evi Γ it σ B).bind fun ds B => (compL (fun d B => match bindT t d (wipeE σ vs) with
      | none => .stuck
      | some τ => R.quiet ((evc Γ c τ B).bind fun ok B => match ok with
        | true => (ev Γ elt τ B).bind fun x B => .ok (some x, B)
        | false => .ok (none, B))) ds B).bind fun r B => .ok (.list r, B)
  | .join s a, σ, B => (ev Γ s σ B).bind fun x B => match x with
    | .str x => (ev Γ a σ B).bind fun y B => ofO B ((seqD y).bind (joinD x))
    | _ => .stuck
  | .split a s, σ, B => (ev Γ a σ B).bind fun x B => match x with
    | .str x => (ev Γ s σ B).bind fun y B => match y with
      | .str y => if (y.length == 0) = false ∧ x.length + 2 ≤ sizeLine ∧ (Txt.split x y).length ≤ sizeLine then .ok (.list ((Txt.split x y).map .str), B) else .stuck
      | _ => .stuck
    | _ => .stuck
  | .lerr e, σ, B => (match ev Γ e (noBag σ) [] with
    | .ok _ => .ok (.str Str.empty, B)
    | .err c => ofO B ((Γ.en c).map .str)
    | .stuck => .stuck)
  | .ltold e, σ, B => (match ev Γ e (noBag σ) [] with
    | .ok (d, _) => .ok (.tuple [d, .str Str.empty], B)
    | .err c => ofO B ((Γ.en c).map fun x => .tuple [.none, .str x])
    | .stuck => .stuck)
  | .lrep es k, σ, B => (evs Γ es σ B).bind fun ds B => (ev Γ k σ B).bind fun y B => match y with
    | .int k => if 0 ≤ k ∧ k ≤ 1000 ∧ ds.length ≤ 1000 then .ok (.list (List.replicate k.toNat ds).flatten, B) else .stuck
    | _ => .stuck
  | .js es, σ, B => (evj Γ es Str.empty σ B).bind fun x B => .ok (.str x, B)
  | .dget i k, σ, B => (match σ[i]? with
    | some (.dic kvs) => (ev Γ k σ B).bind fun y B => ofO B ((keyI y).bind (getDk kvs))
    | _ => .stuck)
  | .fld i x, σ, B => (match σ[i]? with
    | some (.ins _ fs) => ofO B (fs.lookup x)
    | _ => .stuck)
/-- the parts of an f-string, one behind the other -/
def evj (Γ : Tab) : MEs → Str → SEnv → Bg → M Str
  | .nil, acc, _, B => .ok (acc, B)
  | .cons e r, acc, σ, B => (ev Γ e σ B).bind fun x B => match x with
    | .str y => if (acc ++ y).length ≤ sizeLine then evj Γ r (acc ++ y) σ B else .stuck
    | _ => .stuck
def evs (Γ : Tab) : MEs → SEnv → Bg → M (List D)
  | .nil, _, B => .ok ([], B)
  | .cons e r, σ, B => (ev Γ e σ B).bind fun x B => (evs Γ r σ B).bind fun xs B => .ok (x :: xs, B)
def evo (Γ : Tab) : MO → SEnv → Bg → M (Option Int)
  | .no, _, B => .ok (none, B)
  | .so e, σ, B => (ev Γ e σ B).bind fun x B => match x with
    | .int i => .ok (some i, B)
    | _ => .stuck
/-- a comprehension's test -/
def evc (Γ : Tab) : MO → SEnv → Bg → M Bool
  | .no, _, B => .ok (true, B)
  | .so e, σ, B => (ev Γ e σ B).bind fun x B => match x with
    | .bool b => .ok (b, B)
    | _ => .stuck
def evi (Γ : Tab) : MI → SEnv → Bg → M (List D)
  | .seq e, σ, B => (ev Γ e σ B).bind fun x B => ofO B (seqD x)
  | .rng1 e, σ, B => (ev Γ e σ B).bind fun x B => match x with
    | .int j => if rngOk 0 j then .ok (rangeD 0 j.toNat, B) else .stuck
    | _ => .stuck
  | .rng2 a b, σ, B => (ev Γ a σ B).bind fun x B => (ev Γ b σ B).bind fun y B => match x, y with
    | .int i, .int j => if rngOk i j then .ok (rangeD i (j - i).toNat, B) else .stuck
    | _, _ => .stuck
  | .zip a b, σ, B => (ev Γ a σ B).bind fun x B => (ev Γ b σ B).bind fun y B => match x, y with
    | .list xs, .list ys => .ok (zipD xs ys, B)
    | .tuple xs, .tuple ys => .ok (zipD xs ys, B)
    | _, _ => .stuck
  | .enum a, σ, B => (ev Γ a σ B).bind fun x B => match seqD x with
    | some xs => .ok (enumD 0 xs, B)
    | none => .stuck
end
mutual
inductive MS where
  | asg (t : Tgt) (e : ME)
  | asgO (i : Nat) (e : ME)
  | par (i j : Nat) (a b : ME)
  | par3 (i j k : Nat) (a b c : ME)
  | setL (i : Nat) (k e : ME)
  | app (i : Nat) (e : ME)
  | keep (i : Nat)
  | setbag (i f : Nat) (es : MEs)
  | expr (e : ME)
  | ret (e : ME)
  | retO (i : Nat)
  | ife (c : ME) (a b : MSs)
  | forr (t : Tgt) (it : MI) (body : MSs)
  | whil (c : ME) (body : MSs)
  | raise (c : Nat)
  | dnew (i : Nat)
  | dset (i : Nat) (k e : ME)
inductive MSs where
  | nil
  | cons (s : MS) (r : MSs)
end
/-- behind a statement: on, with the slots; or a value given back -/
inductive Fl where
  | nx (σ : SEnv)
  | rt (d : D)
def onE (x : M (Option SEnv)) : M Fl := x.bind fun o B => match o with
  | some σ => .ok (.nx σ, B)
  | none => .stuck
def forL (f : D → SEnv → Bg → M Fl) : List D → SEnv → Bg → M Fl
  | [], σ, B => .ok (.nx σ, B)
  | d :: ds, σ, B => (f d σ B).bind fun r B => match r with
    | .nx σ => forL f ds σ B
    | .rt d => .ok (.rt d, B)
def whileL (c : SEnv → Bg → M D) (f : SEnv → Bg → M Fl) : Nat → SEnv → Bg → M Fl
  | 0, _, _ => .stuck
  | n + 1, σ, B => (c σ B).bind fun x B => match x with
    | .bool true => (f σ B).bind fun r B => match r with
      | .nx σ => whileL c f n σ B
      | .rt d => .ok (.rt d, B)
    | .bool false => .ok (.nx σ, B)
    | _ => .stuck
/-- as many turns as a while may take here -/
def turns : Nat := 1000000
def isBag : Sl → Bool
  | .bag => true
  | _ => false
/-- no slot but the i-th holds the bag -/
def bagFree : Nat → SEnv → Bool
  | _, [] => false
  | 0, _ :: r => r.all fun s => !isBag s
  | i + 1, s :: r => !isBag s && bagFree i r
mutual
def evS (Γ : Tab) : MS → SEnv → Bg → M Fl
  | .asg t e, σ, B => onE ((ev Γ e σ B).bind fun x B => .ok (bindT t x σ, B))
  | .asgO i e, σ, B => (ev Γ e σ B).bind fun x B => match σ[i]? with
    | none => .stuck
    | some .bag => .stuck
    | some _ => (match x with
      | .list ds => .ok (.nx (σ.set i (.own ds)), B)
      | _ => .stuck)
  | .par i j a b, σ, B => (ev Γ a σ B).bind fun x B => (ev Γ b σ B).bind fun y B => .ok (.nx ((σ.set i (.val x)).set j (.val y)), B)
  | .par3 i j k a b c, σ, B => (ev Γ a σ B).bind fun x B => (ev Γ b σ B).bind fun y B => (ev Γ c σ B).bind fun z B => .ok (.nx (((σ.set i (.val x)).set j (.val y)).set k (.val z)), B)
  | .setL i k e, σ, B => (ev Γ e σ B).bind fun x B => match σ[i]? with
    | some (.own ds) => (ev Γ k σ B).bind fun y B => (match y with
      | .int k => (match ixD ds.length k with
        | some j => .ok (.nx (σ.set i (.own (ds.set j x))), B)
        | none => .stuck)
      | _ => .stuck)
    | _ => .stuck
  | .app i e, σ, B => (match σ[i]? with
    | some (.own ds) => (ev Γ e σ B).bind fun x B => if ds.length < sizeLine then .ok (.nx (σ.set i (.own (ds ++ [x]))), B) else .stuck
    | _ => .stuck)
  | .keep i, σ, B => (match σ[i]? with
    | some (.own ds) => .ok (.nx (σ.set i (.val (.list ds))), B)
    | _ => .stuck)
  | .setbag i f es, σ, B => (evs Γ es σ B).bind fun ds _ => (Γ.call f ds).bind fun d => match d with
    | .list xs => (match ints? xs with
      | some ns => if bagFree i σ then .ok (.nx (σ.set i .bag), ns) else .stuck
      | none => .stuck)
    | _ => .stuck
  | .expr e, σ, B => (ev Γ e σ B).bind fun _ B => .ok (.nx σ, B)
  | .ret e, σ, B => (ev Γ e σ B).bind fun x B => .ok (.rt x, B)
  | .retO i, σ, B => (match σ[i]? with
    | some (.own ds) => .ok (.rt (.list ds), B)
    | _ => .stuck)
  | .ife c a b, σ, B => (ev Γ c σ B).bind fun x B => match x with
    | .bool true => evSs Γ a σ B
    | .bool false => evSs Γ b σ B
    | _ => .stuck
  | .forr t it body, σ, B => (evi Γ it σ B).bind fun ds B => forL (fun d σ B => match bindT t d σ with
      | some τ => evSs Γ body τ B
      | none => .stuck) ds σ B
  | .whil c body, σ, B => whileL (fun σ B => ev Γ c σ B) (fun σ B => evSs Γ body σ B) turns σ B
  | .raise c, _, _ => .err c
  | .dnew i, σ, B => (match σ[i]? with
    | none => .stuck
    | some .bag => .stuck
    | some _ => .ok (.nx (σ.set i (.dic [])), B))
  | .dset i k e, σ, B => (ev Γ e σ B).bind fun x B => match σ[i]? with
    | some (.dic kvs) => (ev Γ k σ B).bind fun y B => (match keyI y with
      | some ks => if kvs.length < 1000 then .ok (.nx (σ.set i (.dic (putDk kvs ks x))), B) else .stuck
      | none => .stuck)
    | _ => .stuck
def evSs (Γ : Tab) : MSs → SEnv → Bg → M Fl
  | .nil, σ, B => .ok (.nx σ, B)
  | .cons s r, σ, B => (evS Γ s σ B).bind fun x B => match x with
    | .nx σ => evSs Γ r σ B
    | .rt d => .ok (.rt d, B)
end
/-- a def: its parameters, its slots, whether the first parameter is the bag, whether it hands back a new list, its body -/
structure Fn where
  np : Nat
  nl : Nat
  bag : Bool
  new : Bool
  body : MSs
def startE (f : Fn) (ds : List D) : SEnv := (if f.bag then [Sl.bag] else []) ++ ds.map .val ++ List.replicate (f.nl - f.np) .emp
def endD (r : M Fl) : M D := r.bind fun x B => match x with
  | .nx _ => .ok (.none, B)
  | .rt d => .ok (d, B)
/-- the program: constants, defs -/
structure Prog where
  gc : Nat → D
  en : Nat → Option Str
  nat : Nat → Option (List D → R D)
  fn : Nat → Option Fn
mutual
def callP (P : Prog) : Nat → Nat → List D → R D
  | 0, _, _ => .stuck
  | n + 1, f, ds => match P.nat f with
    | some g => g ds
    | none => match P.fn f with
    | some g => if g.bag = false ∧ ds.length = g.np then (match endD (evSs ⟨P.gc, P.en, callP P n, callB P n⟩ g.body (startE g ds) []) with
        | .ok (d, _) => .ok d
        | .err c => .err c
        | .stuck => .stuck) else .stuck
    | none => .stuck
def callB (P : Prog) : Nat → Nat → List D → Bg → M D
  | 0, _, _, _ => .stuck
  | n + 1, f, ds, B => match P.fn f with
    | some g => if g.bag = true ∧ ds.length + 1 = g.np then endD (evSs ⟨P.gc, P.en, callP P n, callB P n⟩ g.body (startE g ds) B) else .stuck
    | none => .stuck
end
def tab (P : Prog) (n : Nat) : Tab := ⟨P.gc, P.en, callP P n, callB P n⟩
end PD
set_option linter.all false
set_option maxRecDepth 100000
set_option maxHeartbeats 1000000
/-! Plain data as it lies in the heap. -/
namespace PD
open PySem PySem.Spec PyProof.Rows L2
section
variable (K : PySem.W.Frag) (H : Hp) (A : Addr → Prop)
/-- a list that is none of A, or that stands for ever -/
def Lq (a : Addr) (xs : List V) : Prop := (H a = some (.lst xs) ∧ ¬ A a) ∨ (∃ o, H a = some (.frz o (.lst xs))) ∨
  ∃ (o : Obj) (its : Array Value) (n : Nat), K.lookup a = some o ∧ o.cls = .type "list" ∧ o.dict = none ∧ o.data = .seq its n ∧ its.size ≤ sizeLine ∧ Vals xs its.toList
mutual
/-- the value v bears the data d; A: the lists that do not lie within -/
def Dv : D → V → Prop
  | .none, v => v = .non
  | .bool b, v => v = .bl b
  | .int i, v => v = .int i
  | .str x, v => v = .str x
  | .list ds, v => ∃ a xs, v = .ref a ∧ Lq K H A a xs ∧ xs.length ≤ sizeLine ∧ DvAll ds xs
  | .tuple ds, v => ∃ a xs, v = .ref a ∧ SqT K H a xs ∧ xs.length ≤ sizeLine ∧ DvAll ds xs
  | .dict _, _ => False
def DvAll : List D → List V → Prop
  | [], vs => vs = []
  | d :: ds, vs => ∃ v r, vs = v :: r ∧ Dv d v ∧ DvAll ds r
end
end
variable {K : PySem.W.Frag} {H H' : Hp} {A A' : Addr → Prop}
theorem Same.sqT {a : Addr} {xs : List V} (e : Same H H') (h : SqT K H a xs) : SqT K H' a xs := by
  rcases h with (h | ⟨o, h⟩) | h
  · exact .inl (.inl (e _ _ h))
  · exact .inl (.inr ⟨o, e _ _ h⟩)
  · exact .inr h
theorem Lq.sq {a : Addr} {xs : List V} (h : Lq K H A a xs) : SqL K H a xs := by
  rcases h with h | h | h
  · exact .inl (.inl h.1)
  · exact .inl (.inr h)
  · exact .inr h
theorem Lq.mk {a : Addr} {xs : List V} (h : SqL K H a xs) (n : ¬ A a) : Lq K H A a xs := by
  rcases h with (h | h) | h
  · exact .inl ⟨h, n⟩
  · exact .inr (.inl h)
  · exact .inr (.inr h)
mutual
theorem Dv.dp : ∀ (d : D) {v : V}, Dv K H A d v → Dp K H v d
  | .none, v, h => by simp only [Dv] at h; subst h; exact .non
  | .bool b, v, h => by simp only [Dv] at h; subst h; exact .bl b
  | .int i, v, h => by simp only [Dv] at h; subst h; exact .int i
  | .str x, v, h => by simp only [Dv] at h; subst h; exact .str x
  | .list ds, v, h => by simp only [Dv] at h; obtain ⟨a, xs, rfl, h1, _, h2⟩ := h; exact .lst h1.sq (DvAll.dp ds h2)
  | .tuple ds, v, h => by simp only [Dv] at h; obtain ⟨a, xs, rfl, h1, _, h2⟩ := h; exact .tup h1 (DvAll.dp ds h2)
  | .dict _, v, h => by simp only [Dv] at h
theorem DvAll.dp : ∀ (ds : List D) {vs : List V}, DvAll K H A ds vs → DpAll K H vs ds
  | [], vs, h => by simp only [DvAll] at h; subst h; exact .nil
  | d :: ds, vs, h => by simp only [DvAll] at h; obtain ⟨v, r, rfl, h1, h2⟩ := h; exact .cons (Dv.dp d h1) (DvAll.dp ds h2)
end
/-- from one heap, and one lot of lists that are left out, to another -/
structure Thru (K : PySem.W.Frag) (H H' : Hp) (A A' : Addr → Prop) : Prop where
  l : ∀ a xs, Lq K H A a xs → Lq K H' A' a xs
  t : ∀ a xs, SqT K H a xs → SqT K H' a xs
mutual
theorem Dv.thru (e : Thru K H H' A A') : ∀ (d : D) {v : V}, Dv K H A d v → Dv K H' A' d v
  | .none, v, h => by simp only [Dv] at h ⊢; exact h
  | .bool b, v, h => by simp only [Dv] at h ⊢; exact h
  | .int i, v, h => by simp only [Dv] at h ⊢; exact h
  | .str x, v, h => by simp only [Dv] at h ⊢; exact h
  | .list ds, v, h => by
    simp only [Dv] at h ⊢; obtain ⟨a, xs, e1, h1, h3, h4⟩ := h
    exact ⟨a, xs, e1, e.l a xs h1, h3, DvAll.thru e ds h4⟩
  | .tuple ds, v, h => by
    simp only [Dv] at h ⊢; obtain ⟨a, xs, e1, h1, h3, h4⟩ := h
    exact ⟨a, xs, e1, e.t a xs h1, h3, DvAll.thru e ds h4⟩
  | .dict _, v, h => by simp only [Dv] at h
theorem DvAll.thru (e : Thru K H H' A A') : ∀ (ds : List D) {vs : List V}, DvAll K H A ds vs → DvAll K H' A' ds vs
  | [], vs, h => by simp only [DvAll] at h ⊢; exact h
  | d :: ds, vs, h => by simp only [DvAll] at h ⊢; obtain ⟨v, r, rfl, h1, h2⟩ := h; exact ⟨v, r, rfl, Dv.thru e d h1, DvAll.thru e ds h2⟩
end
theorem Thru.same (e : Same H H') : Thru K H H' A A := ⟨fun a xs h => by
    rcases h with h | ⟨o, h⟩ | h
    · exact .inl ⟨e _ _ h.1, h.2⟩
    · exact .inr (.inl ⟨o, e _ _ h⟩)
    · exact .inr (.inr h), fun a xs h => Same.sqT e h⟩
theorem Thru.less (e : ∀ a, A' a → A a) : Thru K H H A A' := ⟨fun a xs h => by
    rcases h with h | h | h
    · exact .inl ⟨h.1, fun z => h.2 (e a z)⟩
    · exact .inr (.inl h)
    · exact .inr (.inr h), fun a xs h => h⟩
theorem Dv.same {d : D} {v : V} (e : Same H H') (h : Dv K H A d v) : Dv K H' A d v := Dv.thru (.same e) d h
theorem DvAll.same {ds : List D} {vs : List V} (e : Same H H') (h : DvAll K H A ds vs) : DvAll K H' A ds vs := DvAll.thru (.same e) ds h
theorem Dv.less {d : D} {v : V} (e : ∀ a, A' a → A a) (h : Dv K H A d v) : Dv K H A' d v := Dv.thru (.less e) d h
theorem DvAll.less {ds : List D} {vs : List V} (e : ∀ a, A' a → A a) (h : DvAll K H A ds vs) : DvAll K H A' ds vs := DvAll.thru (.less e) ds h
theorem same_new {p : Addr} {o : HO} (h : H p = none) : Same H (upd H p o) := fun b u e => by rw [upd_ne (ne_of_none e h)]; exact e
/-! ### rows of values -/
theorem DvAll.nil : DvAll K H A [] [] := by simp only [DvAll]
theorem DvAll.cons {d : D} {ds : List D} {v : V} {vs : List V} (h : Dv K H A d v) (t : DvAll K H A ds vs) : DvAll K H A (d :: ds) (v :: vs) := by simp only [DvAll]; exact ⟨v, vs, rfl, h, t⟩
theorem DvAll.uncons {d : D} {ds : List D} {vs : List V} (h : DvAll K H A (d :: ds) vs) : ∃ v r, vs = v :: r ∧ Dv K H A d v ∧ DvAll K H A ds r := by simpa only [DvAll] using h
theorem DvAll.eqnil {vs : List V} (h : DvAll K H A [] vs) : vs = [] := by simpa only [DvAll] using h
theorem DvAll.length : ∀ {ds : List D} {vs : List V}, DvAll K H A ds vs → vs.length = ds.length
  | [], _, h => by rw [h.eqnil]; rfl
  | d :: ds, _, h => by
    obtain ⟨v, r, rfl, _, t⟩ := h.uncons
    simp [DvAll.length t]
theorem DvAll.get : ∀ {ds : List D} {vs : List V} {i : Nat} {d : D}, DvAll K H A ds vs → ds[i]? = some d → ∃ v, vs[i]? = some v ∧ Dv K H A d v
  | [], _, i, d, h, e => by simp at e
  | d :: ds, _, i, d', h, e => by
    obtain ⟨v, r, rfl, h1, t⟩ := h.uncons
    cases i with
    | zero => simp at e; subst e; exact ⟨v, rfl, h1⟩
    | succ i => exact DvAll.get (i := i) t (by simpa using e)
theorem DvAll.append : ∀ {ds es : List D} {vs ws : List V}, DvAll K H A ds vs → DvAll K H A es ws → DvAll K H A (ds ++ es) (vs ++ ws)
  | [], _, _, _, h, t => by rw [h.eqnil]; exact t
  | d :: ds, _, _, _, h, t => by
    obtain ⟨v, r, rfl, h1, h2⟩ := h.uncons
    exact .cons h1 (DvAll.append h2 t)
theorem DvAll.take : ∀ {ds : List D} {vs : List V} (n : Nat), DvAll K H A ds vs → DvAll K H A (ds.take n) (vs.take n)
  | _, _, 0, _ => .nil
  | [], _, n + 1, h => by rw [h.eqnil]; exact .nil
  | d :: ds, _, n + 1, h => by
    obtain ⟨v, r, rfl, h1, h2⟩ := h.uncons
    exact .cons h1 (DvAll.take n h2)
theorem DvAll.drop : ∀ {ds : List D} {vs : List V} (n : Nat), DvAll K H A ds vs → DvAll K H A (ds.drop n) (vs.drop n)
  | _, _, 0, h => h
  | [], _, n + 1, h => by rw [h.eqnil]; exact .nil
  | d :: ds, _, n + 1, h => by
    obtain ⟨v, r, rfl, h1, h2⟩ := h.uncons
    exact DvAll.drop n h2
theorem DvAll.reverse : ∀ {ds : List D} {vs : List V}, DvAll K H A ds vs → DvAll K H A ds.reverse vs.reverse
  | [], _, h => by rw [h.eqnil]; exact .nil
  | d :: ds, _, h => by
    obtain ⟨v, r, rfl, h1, h2⟩ := h.uncons
    rw [List.reverse_cons, List.reverse_cons]
    exact .append (DvAll.reverse h2) (.cons h1 .nil)
theorem DvAll.set {d : D} {v : V} (hd : Dv K H A d v) : ∀ {ds : List D} {vs : List V} (n : Nat), DvAll K H A ds vs → DvAll K H A (ds.set n d) (vs.set n v)
  | [], _, n, h => by rw [h.eqnil]; cases n <;> exact .nil
  | _ :: _, _, 0, h => by
    obtain ⟨v, r, rfl, h1, h2⟩ := h.uncons
    exact .cons hd h2
  | _ :: _, _, n + 1, h => by
    obtain ⟨v, r, rfl, h1, h2⟩ := h.uncons
    exact .cons h1 (DvAll.set hd n h2)
theorem DvAll.rep {ds : List D} {vs : List V} (h : DvAll K H A ds vs) : ∀ n : Nat, DvAll K H A (List.replicate n ds).flatten (List.replicate n vs).flatten
  | 0 => .nil
  | n + 1 => by
    rw [List.replicate_succ, List.replicate_succ, List.flatten_cons, List.flatten_cons]
    exact h.append (DvAll.rep h n)
theorem cutV_eq (vs : List V) (lo hi : Option Int) : cutV vs lo hi = cutL vs lo hi := by
  have e : ∀ n d o, HT.sIx n d o = cutAt n d o := fun n d o => by cases o <;> rfl
  unfold cutV cutL
  rw [e, e]
theorem DvAll.cut {ds : List D} {vs : List V} (h : DvAll K H A ds vs) (lo hi : Option Int) : DvAll K H A (cutL ds lo hi) (cutV vs lo hi) := by
  rw [cutV_eq]
  unfold cutL
  rw [h.length]
  exact (h.drop _).take _
theorem DvAll.ints : ∀ {ds : List D} {vs : List V} {ns : List Int}, DvAll K H A ds vs → ints? ds = some ns → vs = ns.map V.int
  | [], _, ns, h, e => by simp only [ints?] at e; cases e; exact h.eqnil
  | d :: ds, _, ns, h, e => by
    obtain ⟨v, r, rfl, h1, h2⟩ := h.uncons
    cases d with
    | int i =>
      simp only [ints?, Option.map_eq_some_iff] at e
      obtain ⟨ms, e1, rfl⟩ := e
      simp only [Dv] at h1
      rw [h1, DvAll.ints h2 e1]; rfl
    | _ => simp only [ints?] at e; cases e
theorem DvAll.bools : ∀ {ds : List D} {vs : List V} {ns : List Bool}, DvAll K H A ds vs → bools? ds = some ns → vs = ns.map V.bl
  | [], _, ns, h, e => by simp only [bools?] at e; cases e; exact h.eqnil
  | d :: ds, _, ns, h, e => by
    obtain ⟨v, r, rfl, h1, h2⟩ := h.uncons
    cases d with
    | bool i =>
      simp only [bools?, Option.map_eq_some_iff] at e
      obtain ⟨ms, e1, rfl⟩ := e
      simp only [Dv] at h1
      rw [h1, DvAll.bools h2 e1]; rfl
    | _ => simp only [bools?] at e; cases e
theorem DvAll.strs : ∀ {ds : List D} {vs : List V} {ns : List Str}, DvAll K H A ds vs → strs? ds = some ns → vs = ns.map V.str
  | [], _, ns, h, e => by simp only [strs?] at e; cases e; exact h.eqnil
  | d :: ds, _, ns, h, e => by
    obtain ⟨v, r, rfl, h1, h2⟩ := h.uncons
    cases d with
    | str i =>
      simp only [strs?, Option.map_eq_some_iff] at e
      obtain ⟨ms, e1, rfl⟩ := e
      simp only [Dv] at h1
      rw [h1, DvAll.strs h2 e1]; rfl
    | _ => simp only [strs?] at e; cases e
theorem DvAll.ofInts : ∀ ns : List Int, DvAll K H A (ns.map PyData.int) (ns.map V.int)
  | [] => .nil
  | n :: ns => .cons (by simp only [Dv]) (DvAll.ofInts ns)
theorem DvAll.ofStrs : ∀ ns : List Str, DvAll K H A (ns.map PyData.str) (ns.map V.str)
  | [] => .nil
  | n :: ns => .cons (by simp only [Dv]) (DvAll.ofStrs ns)
theorem Dv.l {ds : List D} {v : V} (h : Dv K H A (.list ds) v) : ∃ a xs, v = .ref a ∧ Lq K H A a xs ∧ xs.length ≤ sizeLine ∧ DvAll K H A ds xs := by simpa only [Dv] using h
theorem Dv.t {ds : List D} {v : V} (h : Dv K H A (.tuple ds) v) : ∃ a xs, v = .ref a ∧ SqT K H a xs ∧ xs.length ≤ sizeLine ∧ DvAll K H A ds xs := by simpa only [Dv] using h
theorem Dv.i {i : Int} {v : V} (h : Dv K H A (.int i) v) : v = .int i := by simpa only [Dv] using h
theorem Dv.b {i : Bool} {v : V} (h : Dv K H A (.bool i) v) : v = .bl i := by simpa only [Dv] using h
theorem Dv.s {i : Str} {v : V} (h : Dv K H A (.str i) v) : v = .str i := by simpa only [Dv] using h
theorem Dv.n {v : V} (h : Dv K H A .none v) : v = .non := by simpa only [Dv] using h
theorem Dv.ofI (i : Int) : Dv K H A (.int i) (.int i) := by simp only [Dv]
theorem Dv.ofB (i : Bool) : Dv K H A (.bool i) (.bl i) := by simp only [Dv]
theorem Dv.ofS (i : Str) : Dv K H A (.str i) (.str i) := by simp only [Dv]
theorem Dv.ofN : Dv K H A .none .non := by simp only [Dv]
theorem Dv.mkT {ds : List D} {a : Addr} {xs : List V} (h : SqT K H a xs) (z : xs.length ≤ sizeLine) (t : DvAll K H A ds xs) : Dv K H A (.tuple ds) (.ref a) := by simp only [Dv]; exact ⟨a, xs, rfl, h, z, t⟩
theorem Dv.mkL {ds : List D} {a : Addr} {xs : List V} (h : SqL K H a xs) (n : ¬ A a) (z : xs.length ≤ sizeLine) (t : DvAll K H A ds xs) : Dv K H A (.list ds) (.ref a) := by simp only [Dv]; exact ⟨a, xs, rfl, .mk h n, z, t⟩
/-- the lists that are left out stand in the heap -/
def Dom (A : Addr → Prop) (H : Hp) : Prop := ∀ a, A a → ∃ o, H a = some o ∧ ∀ ps, o ≠ .tbl ps
theorem Dom.ne (dA : Dom A H) {p : Addr} (h : H p = none) : ¬ A p := fun q => by
  obtain ⟨o, e, _⟩ := dA p q
  rw [h] at e; cases e
theorem Dv.newT {ds : List D} {p : Addr} {xs : List V} (h : H p = none) (z : xs.length ≤ sizeLine) (t : DvAll K H A ds xs) : Dv K (upd H p (.tup xs)) A (.tuple ds) (.ref p) :=
  .mkT (SqT.of upd_same) z (t.same (same_new h))
theorem Dv.newL {ds : List D} {p : Addr} {xs : List V} (dA : Dom A H) (h : H p = none) (z : xs.length ≤ sizeLine) (t : DvAll K H A ds xs) : Dv K (upd H p (.lst xs)) A (.list ds) (.ref p) :=
  Dv.mkL (SqL.of upd_same) (dA.ne h) z (t.same (same_new h))
/-- what is wanted of a value that is handed on -/
def Out (K : PySem.W.Frag) (A : Addr → Prop) (H : Hp) (d : D) (Q : VK) : Prop := ∀ v H', Same H H' → Dv K H' A d v → Q v H'
theorem Out.here {d : D} {v : V} {Q : VK} (q : Out K A H d Q) (h : Dv K H A d v) : Q v H := q v H (.refl H) h
theorem Out.tup {ds : List D} {Q : VK} {p : Addr} {xs : List V} (q : Out K A H (.tuple ds) Q) (h : H p = none) (z : xs.length ≤ sizeLine) (t : DvAll K H A ds xs) : Q (.ref p) (upd H p (.tup xs)) := q _ _ (same_new h) (.newT h z t)
theorem Out.lst {ds : List D} {Q : VK} {p : Addr} {xs : List V} (q : Out K A H (.list ds) Q) (dA : Dom A H) (h : H p = none) (z : xs.length ≤ sizeLine) (t : DvAll K H A ds xs) : Q (.ref p) (upd H p (.lst xs)) := q _ _ (same_new h) (.newL dA h z t)
/-- as Dv, but the list itself may be one that is left out -/
def Di (K : PySem.W.Frag) (H : Hp) (A : Addr → Prop) : D → V → Prop
  | .list ds, v => ∃ a xs, v = .ref a ∧ SqL K H a xs ∧ xs.length ≤ sizeLine ∧ DvAll K H A ds xs
  | d, v => Dv K H A d v
theorem Dv.di {d : D} {v : V} (h : Dv K H A d v) : Di K H A d v := by
  cases d with
  | list ds => obtain ⟨a, xs, e, h1, z, t⟩ := h.l; exact ⟨a, xs, e, h1.sq, z, t⟩
  | _ => exact h
theorem Di.l {ds : List D} {v : V} (h : Di K H A (.list ds) v) : ∃ a xs, v = .ref a ∧ SqL K H a xs ∧ xs.length ≤ sizeLine ∧ DvAll K H A ds xs := h
theorem Di.t {ds : List D} {v : V} (h : Di K H A (.tuple ds) v) : ∃ a xs, v = .ref a ∧ SqT K H a xs ∧ xs.length ≤ sizeLine ∧ DvAll K H A ds xs := Dv.t (K := K) (H := H) (A := A) h
theorem Di.i {i : Int} {v : V} (h : Di K H A (.int i) v) : v = .int i := Dv.i (K := K) (H := H) (A := A) h
theorem Di.b {i : Bool} {v : V} (h : Di K H A (.bool i) v) : v = .bl i := Dv.b (K := K) (H := H) (A := A) h
theorem Di.s {i : Str} {v : V} (h : Di K H A (.str i) v) : v = .str i := Dv.s (K := K) (H := H) (A := A) h
theorem Di.n {v : V} (h : Di K H A .none v) : v = .non := Dv.n (K := K) (H := H) (A := A) h
theorem Di.no {kvs : List (D × D)} {v : V} (h : Di K H A (.dict kvs) v) : False := by
  have h1 : Dv K H A (.dict kvs) v := h
  simp only [Dv] at h1
theorem Di.dp {d : D} {v : V} (h : Di K H A d v) : Dp K H v d := by
  cases d with
  | list ds => obtain ⟨a, xs, rfl, h1, z, t⟩ := h; exact .lst h1 (t.dp ds)
  | _ => exact Dv.dp (A := A) _ h
theorem Di.less {d : D} {v : V} (e : ∀ a, A' a → A a) (h : Di K H A d v) : Di K H A' d v := by
  cases d with
  | list ds => obtain ⟨a, xs, e1, h1, z, t⟩ := h; exact ⟨a, xs, e1, h1, z, t.less e⟩
  | _ => exact Dv.less e h
/-- as Di, the list itself being none of A0 -/
def Dj (K : PySem.W.Frag) (H : Hp) (A0 A : Addr → Prop) : D → V → Prop
  | .list ds, v => ∃ a xs, v = .ref a ∧ Lq K H A0 a xs ∧ xs.length ≤ sizeLine ∧ DvAll K H A ds xs
  | d, v => Dv K H A d v
theorem Lq.less {a : Addr} {xs : List V} (e : ∀ a, A' a → A a) (h : Lq K H A a xs) : Lq K H A' a xs := (Thru.less (H := H) (K := K) e).l a xs h
theorem Dj.di {A0 : Addr → Prop} {d : D} {v : V} (h : Dj K H A0 A d v) : Di K H A d v := by
  cases d with
  | list ds => obtain ⟨a, xs, e, h1, z, t⟩ := h; exact ⟨a, xs, e, h1.sq, z, t⟩
  | _ => exact h
theorem Dv.dj {A0 : Addr → Prop} {d : D} {v : V} (e : ∀ a, A0 a → A a) (h : Dv K H A d v) : Dj K H A0 A d v := by
  cases d with
  | list ds => obtain ⟨a, xs, e1, h1, z, t⟩ := h.l; exact ⟨a, xs, e1, h1.less e, z, t⟩
  | _ => exact h
theorem Dj.thru {A0 A0' : Addr → Prop} (e0 : Thru K H H' A0 A0') (e : Thru K H H' A A') {d : D} {v : V} (h : Dj K H A0 A d v) : Dj K H' A0' A' d v := by
  cases d with
  | list ds => obtain ⟨a, xs, e1, h1, z, t⟩ := h; exact ⟨a, xs, e1, e0.l a xs h1, z, DvAll.thru e ds t⟩
  | _ => exact Dv.thru e _ h
/-! ### operations, by data -/
def rD1 (K : PySem.W.Frag) (f : D → Option D) : V → Hp → VK → Prop := fun x H Q => ∃ A dx d, Dom A H ∧ Di K H A dx x ∧ f dx = some d ∧ Out K A H d Q
def rD2 (K : PySem.W.Frag) (f : D → D → Option D) : R2 := fun x y H Q => ∃ A dx dy d, Dom A H ∧ Di K H A dx x ∧ Di K H A dy y ∧ f dx dy = some d ∧ Out K A H d Q
section
variable {X : Cx}
def rCatS (K : PySem.W.Frag) : R2 := fun x y H Q => ∃ l b xs zs, x = .ref l ∧ y = .ref b ∧ SqL K H l xs ∧ SqL K H b zs ∧ xs.length + zs.length ≤ sizeLine ∧ ∀ p, H p = none → Q (.ref p) (upd H p (.lst (xs ++ zs)))
theorem op_catS : OpR X (binaryOp .Add) (rCatS X.K) := by
  intro pins s σ H x y v u Q I rx ry ⟨l, b, xs, zs, ex, ey, hl, hb, hz, q⟩
  subst ex ey
  cases rx
  cases ry
  obtain ⟨its, r, ⟨⟨c1, d1, t1, s1⟩, n, e1, hc1, hd1, hs1⟩, z1⟩ := I.list hl
  obtain ⟨its2, r2, ⟨⟨c2, d2, t2, s2⟩, n2, e2, hc2, hd2, hs2⟩, z2⟩ := I.list hb
  simp only at hc1 hd1 hs1 hc2 hd2 hs2
  subst hc1 hd1 hs1 hc2 hd2 hs2
  have l1 := r.length
  have l2 := r2.length
  have ea : its.toArray ++ its2.toArray = (its ++ its2).toArray := by simp
  have hz2 : its.toArray.size + its2.toArray.size ≤ sizeLine := by rw [List.size_toArray, List.size_toArray]; omega
  refine concat_meets ⟨_, e1, rfl⟩ ⟨_, e2, rfl⟩ noFill_list_add seq_list_add PySem.F.slot_list_add PySem.F.entry_list_add (PySem.F.args_list_add_2 _ _) (PyProof.Rows.list_addW l b its.toArray its2.toArray n n2 none none s1 s2 hz2) ⟨e1, e2, ?_⟩
  rw [ea]
  exact ⟨.ref _, _, I.lnew (t' := s.toks) (r.append r2) (by rw [List.length_append]; omega), rfl, q _ I.fresh⟩
end
end PD
set_option linter.all false
set_option maxRecDepth 100000
set_option maxHeartbeats 1000000
/-! Operators, comparisons, subscripts, built-ins, by data. -/
namespace PD
open PySem PySem.Spec PyProof.Rows L2
section
variable {X : Cx}
def bop : BinO → Operator
  | .add => .Add | .sub => .Sub | .mul => .Mult | .fdiv => .FloorDiv | .mod => .Mod | .pow => .Pow
theorem tuple_mul1 (l : Addr) (items : Array Value) (n : Nat) (dd : Option Addr) (sl : Array (Option Value)) (u : Tok) :
    Meets (Builtin.«tuple.__mul__» ⟨[.ref l, .int 1 u], []⟩) (fun _ R s => s.heap.get? l = some { cls := .type "tuple", dict := dd, data := .seq items n, slots := sl } ∧ R (.ok (.ret (Value.ref l))) s) :=
  .of_wp fun prog w A R s h => by
    obtain ⟨hp, g, d, tk, os⟩ := s
    obtain ⟨hl, h⟩ := h
    have f1 := AutoSeq1.idx_int
    wp_walk using wpAny_loadPart' hl
    all_goals exact ⟨_, rfl, h⟩
theorem op_repT1 : OpR X (binaryOp .Mult) (fun x y H Q => ∃ l xs, x = .ref l ∧ y = .int 1 ∧ SqT X.K H l xs ∧ Q (.ref l) H) := by
  intro pins s σ H x y v u Q I rx ry ⟨l, xs, ex, ey, hT, q⟩
  subst ex ey
  cases rx
  obtain ⟨t, rfl⟩ := ry
  obtain ⟨its, r, ⟨⟨cls, dd, data, sl⟩, ho, hc, n, hd⟩, hs⟩ := I.tuple hT
  simp only at hc hd
  subst hc hd
  exact wpAny_binaryOp_repeat_ref (T := "tuple") (U := "int") (by decide) ⟨_, ho, rfl⟩ (fun s' => typeIs_int s' 1 t) noFill_tuple_mul F.fills_int_mul F.slot_int_rmul repeat_tuple F.slot_int_index.lookup
    (call_meets F.slot_int_rmul (typeIs_int s 1 t) F.entry_int_rmul (F.args_int_rmul_2 _ _) (int_rmul_tuple 1 t l its.toArray n dd sl)
      ⟨ho, rfl, ⟨_, ho, rfl⟩, call_meets F.slot_tuple_mul ⟨_, ho, rfl⟩ F.entry_tuple_mul (F.args_tuple_mul_2 _ _) (tuple_mul1 l its.toArray n dd sl t) ⟨ho, ⟨.ref l, H, I, rfl, q⟩⟩⟩)
theorem blt_lt {a b : Nat} (h : Nat.blt a b = true) : a < b := Nat.le_of_ble_eq_true h
theorem op_binD (o : BinO) : OpR X (binaryOp (bop o)) (rD2 X.K (binD o)) := by
  intro pins s σ H x y v u Q I rx ry ⟨A, dx, dy, d, dA, hx, hy, hf, q⟩
  cases o with
  | add =>
    cases dx <;> cases dy <;> simp only [binD] at hf <;> try (cases hf; done)
    · cases hf
      exact op_add pins s σ H x y v u Q I rx ry ⟨_, _, hx.i, hy.i, q.here (.ofI _)⟩
    · split at hf
      · rename_i hz
        cases hf
        exact op_add_str pins s σ H x y v u Q I rx ry ⟨_, _, hx.s, hy.s, hz, q.here (.ofS _)⟩
      · cases hf
    · split at hf
      · rename_i hz
        cases hf
        obtain ⟨a, xs, rfl, h1, z1, t1⟩ := hx.l
        obtain ⟨b, ys, rfl, h2, z2, t2⟩ := hy.l
        have hz' : xs.length + ys.length ≤ sizeLine := by rw [t1.length, t2.length]; exact hz
        exact op_catS pins s σ H _ _ v u Q I rx ry ⟨a, b, xs, ys, rfl, rfl, h1, h2, hz', fun p hp => q.lst dA hp (by rw [List.length_append]; exact hz') (t1.append t2)⟩
      · cases hf
    · split at hf
      · rename_i hz
        cases hf
        obtain ⟨a, xs, rfl, h1, z1, t1⟩ := hx.t
        obtain ⟨b, ys, rfl, h2, z2, t2⟩ := hy.t
        have hz' : xs.length + ys.length ≤ sizeLine := by rw [t1.length, t2.length]; exact hz
        refine op_catA pins s σ H _ _ v u Q I rx ry ⟨a, b, xs, ys, rfl, rfl, h1, h2, hz', fun e => ?_, fun e1 e2 => ?_, fun e1 e2 p hp => q.tup hp (by rw [List.length_append]; exact hz') (t1.append t2)⟩
        · subst e
          have e0 : (‹List PyData›) = ‹List PyData› := rfl
          refine q.here (.mkT h2 z2 ?_)
          have h3 := t1.append t2
          rw [List.nil_append] at h3
          exact h3
        · subst e2
          refine q.here (.mkT h1 z1 ?_)
          have h3 := t1.append t2
          rw [List.append_nil] at h3
          exact h3
      · cases hf
  | sub =>
    cases dx <;> cases dy <;> simp only [binD] at hf <;> try (cases hf; done)
    cases hf
    exact op_sub pins s σ H x y v u Q I rx ry ⟨_, _, hx.i, hy.i, q.here (.ofI _)⟩
  | mul =>
    cases dx <;> cases dy <;> simp only [binD] at hf <;> try (cases hf; done)
    · split at hf
      · rename_i hz
        cases hf
        exact op_mulW pins s σ H x y v u Q I rx ry ⟨_, _, hx.i, hy.i, blt_lt hz, q.here (.ofI _)⟩
      · cases hf
    · split at hf
      · rename_i ds k hz
        cases hf
        obtain ⟨h1, h2, h3, h4⟩ := hz
        obtain ⟨a, xs, rfl, g1, z1, t1⟩ := hx.t
        have hl : xs.length ≤ 1000 := by rw [t1.length]; exact h4
        have hne : xs ≠ [] := fun e => by
          subst e
          have := t1.length
          exact h1 (List.eq_nil_of_length_eq_zero this.symm)
        have ey := hy.i
        subst ey
        by_cases hk : k = 1
        · subst hk
          refine op_repT1 pins s σ H _ _ v u Q I rx ry ⟨a, xs, rfl, rfl, g1, q.here (.mkT g1 z1 ?_)⟩
          simpa using t1
        · refine op_repT pins s σ H _ _ v u Q I rx ry ⟨a, k, xs, rfl, rfl, g1, hne, by omega, h3, hl, fun p hp => q.tup hp ?_ (t1.rep _)⟩
          rw [PyProof.Rows.lm_len_rep_flat, sizeLine_eq]
          have a1 : k.toNat * xs.length ≤ 1000 * 1000 := Nat.mul_le_mul (by omega) hl
          omega
      · cases hf
  | fdiv =>
    cases dx <;> cases dy <;> simp only [binD] at hf <;> try (cases hf; done)
    split at hf
    · rename_i hz
      cases hf
      exact op_fdivW pins s σ H x y v u Q I rx ry ⟨_, _, hx.i, hy.i, hz, q.here (.ofI _)⟩
    · cases hf
  | mod =>
    cases dx <;> cases dy <;> simp only [binD] at hf <;> try (cases hf; done)
    split at hf
    · rename_i hz
      cases hf
      exact op_mod pins s σ H x y v u Q I rx ry ⟨_, _, hx.i, hy.i, hz, q.here (.ofI _)⟩
    · cases hf
  | pow =>
    cases dx <;> cases dy <;> simp only [binD] at hf <;> try (cases hf; done)
    split at hf
    · rename_i hz
      cases hf
      exact op_pow pins s σ H x y v u Q I rx ry ⟨_, _, hx.i, hy.i, hz, q.here (.ofI _)⟩
    · cases hf
/-! ### comparisons -/
def cop : CmpO → CmpOp
  | .eq => .Eq | .ne => .NotEq | .lt => .Lt | .le => .LtE | .gt => .Gt | .ge => .GtE | .isin => .In | .notin => .NotIn | .is => .Is | .isnot => .IsNot
/-- as rD2, of a truth value -/
def rB2 (K : PySem.W.Frag) (f : D → D → Option Bool) : R2 := fun x y H Q => ∃ A dx dy b, Di K H A dx x ∧ Di K H A dy y ∧ f dx dy = some b ∧ Q (.bl b) H
theorem isNoneD_eq {K : PySem.W.Frag} {H : Hp} {A : Addr → Prop} {d : D} {v : V} (h : Di K H A d v) : decide (v = V.non) = isNn d := by
  cases d with
  | none => rw [h.n]; rfl
  | bool b => rw [h.b]; rfl
  | int i => rw [h.i]; rfl
  | str x => rw [h.s]; rfl
  | list ds => obtain ⟨a, xs, rfl, _⟩ := h.l; rfl
  | tuple ds => obtain ⟨a, xs, rfl, _⟩ := h.t; rfl
  | dict _ => exact (Di.no h).elim
theorem op_cmpD (hu : X.A.units + 65 < cLine) (o : CmpO) : OpR X (compareOp (cop o)) (rB2 X.K (cmpD o)) := by
  have hu' : X.A.units + 64 < cLine := by omega
  intro pins s σ H x y v u Q I rx ry ⟨A, dx, dy, b, hx, hy, hf, q⟩
  have rdx := Dp.reads I dx x v hx.dp rx
  have rdy := Dp.reads I dy y u hy.dp ry
  cases o with
  | eq =>
    simp only [cmpD, eqD] at hf
    split at hf
    · rename_i hz
      obtain ⟨z1, z2⟩ := Bool.and_eq_true_iff.mp hz
      cases hf
      exact op_eqD hu' pins s σ H x y v u Q I rx ry ⟨dx, dy, hx.dp, hy.dp, z1, z2, q⟩
    · cases hf
  | ne =>
    simp only [cmpD, eqD] at hf
    split at hf
    · rename_i hz
      obtain ⟨z1, z2⟩ := Bool.and_eq_true_iff.mp hz
      cases hf
      exact op_neD hu' pins s σ H x y v u Q I rx ry ⟨dx, dy, hx.dp, hy.dp, z1, z2, q⟩
    · cases hf
  | lt =>
    cases dx <;> cases dy <;> simp only [cmpD] at hf <;> try (cases hf; done)
    cases hf
    exact op_lt pins s σ H x y v u Q I rx ry ⟨_, _, hx.i, hy.i, q⟩
  | le =>
    cases dx <;> cases dy <;> simp only [cmpD] at hf <;> try (cases hf; done)
    cases hf
    exact op_le pins s σ H x y v u Q I rx ry ⟨_, _, hx.i, hy.i, q⟩
  | gt =>
    cases dx <;> cases dy <;> simp only [cmpD] at hf <;> try (cases hf; done)
    cases hf
    exact op_gt pins s σ H x y v u Q I rx ry ⟨_, _, hx.i, hy.i, q⟩
  | ge =>
    cases dx <;> cases dy <;> simp only [cmpD] at hf <;> try (cases hf; done)
    cases hf
    exact op_ge pins s σ H x y v u Q I rx ry ⟨_, _, hx.i, hy.i, q⟩
  | isin =>
    simp only [cmpD] at hf
    cases dy <;> simp only [inD] at hf <;> try (cases hf; done)
    · cases dx <;> simp only at hf <;> try (cases hf; done)
      cases hf
      exact op_in_str pins s σ H x y v u Q I rx ry ⟨_, _, hx.s, hy.s, q⟩
    · split at hf
      · rename_i hz
        obtain ⟨z1, z2⟩ := Bool.and_eq_true_iff.mp hz
        cases hf
        obtain ⟨as, r1⟩ := rdx
        obtain ⟨bs, r2⟩ := rdy
        exact SeqAt.in_list_reads r2 r1 (SeqAt.canLay_of_shaped z2) (SeqAt.canLay_of_shaped z1) (room_in_shaped z1 hu) ⟨.bl _, H, I, rfl, q⟩
      · cases hf
    · split at hf
      · rename_i hz
        obtain ⟨z1, z2⟩ := Bool.and_eq_true_iff.mp hz
        cases hf
        obtain ⟨as, r1⟩ := rdx
        obtain ⟨bs, r2⟩ := rdy
        exact SeqAt.in_tuple_reads r2 r1 (SeqAt.canLay_of_shaped z2) (SeqAt.canLay_of_shaped z1) (room_in_shaped z1 hu) ⟨.bl _, H, I, rfl, q⟩
      · cases hf
  | notin =>
    simp only [cmpD] at hf
    cases dy <;> simp only [inD] at hf <;> try (cases hf; done)
    · cases dx <;> simp only at hf <;> try (cases hf; done)
      cases hf
      exact L2.op_notIn_str pins s σ H x y v u Q I rx ry ⟨_, _, hx.s, hy.s, q⟩
    · split at hf
      · rename_i hz
        obtain ⟨z1, z2⟩ := Bool.and_eq_true_iff.mp hz
        cases hf
        obtain ⟨as, r1⟩ := rdx
        obtain ⟨bs, r2⟩ := rdy
        exact SeqAt.notIn_list_reads r2 r1 (SeqAt.canLay_of_shaped z2) (SeqAt.canLay_of_shaped z1) (room_in_shaped z1 hu) ⟨.bl _, H, I, rfl, q⟩
      · cases hf
    · split at hf
      · rename_i hz
        obtain ⟨z1, z2⟩ := Bool.and_eq_true_iff.mp hz
        cases hf
        obtain ⟨as, r1⟩ := rdx
        obtain ⟨bs, r2⟩ := rdy
        exact SeqAt.notIn_tuple_reads r2 r1 (SeqAt.canLay_of_shaped z2) (SeqAt.canLay_of_shaped z1) (room_in_shaped z1 hu) ⟨.bl _, H, I, rfl, q⟩
      · cases hf
  | is =>
    simp only [cmpD] at hf
    cases dy with
    | none =>
      have hf' : isNn dx = b := by simpa only [isD, Option.some.injEq] using hf
      refine op_isN pins s σ H x y v u Q I rx ry ⟨hy.n, ?_⟩
      rw [isNoneD_eq hx, hf']
      exact q
    | bool c =>
      cases dx <;> simp only [isD] at hf <;> try (cases hf; done)
      cases hf
      exact op_isBl pins s σ H x y v u Q I rx ry ⟨_, _, hx.b, hy.b, q⟩
    | _ => cases dx <;> simp only [isD] at hf <;> cases hf
  | isnot =>
    simp only [cmpD] at hf
    cases dy with
    | none =>
      have hf' : (!isNn dx) = b := by simpa only [isD, Option.map_some, Option.some.injEq] using hf
      refine op_notN pins s σ H x y v u Q I rx ry ⟨hy.n, ?_⟩
      rw [isNoneD_eq hx, hf']
      exact q
    | bool c =>
      cases dx <;> simp only [isD] at hf <;> try (cases hf; done)
      cases hf
      exact op_notBl pins s σ H x y v u Q I rx ry ⟨_, _, hx.b, hy.b, q⟩
    | _ => cases dx <;> simp only [isD] at hf <;> cases hf
end
end PD
set_option linter.all false
set_option maxRecDepth 100000
set_option maxHeartbeats 1000000
/-! sorted(a tuple of ints). (The two walks are the kit's walks over a list, turned to a tuple.) -/
namespace SrtO
open PySem PyProof.Rows Srt
section
variable {prog : Program} {w : World} {A : Around} {E : Value → Shared → Prop} {s : Shared}
theorem collect_tup {l : Addr} {vs : List Value} {Q : List Value → Shared → Prop} (hl : IsTup s.heap l vs.toArray)
    (h : Q vs { s with heap := (s.heap.push (seqObj "list" #[] 0)).update s.heap.objs.size (Obj.mapSeq (· ++ vs.toArray)) }) (hsz : vs.length ≤ sizeLine := by size_fits) :
    wpAny (model prog w) A (collect (.ref l)) Q E s := by
  obtain ⟨o, ho, hc, n, hd⟩ := id hl
  unfold collect
  refine wpAny_bind (wpAny_runValue (codeAny_builtin entry_proto_collect' ?_))
  show wpAny _ _ (do again (.builtin "list.__iadd__" ⟨[← newList [], .ref l], []⟩)) _ _ s
  refine wpAny_bind (wpAny_newList (wpAny_pure ⟨Code.quiet_builtin _ (by decide +kernel), codeAny_builtin entry_list_iadd' ?_⟩))
  show wpAny _ _ (Builtin.List.listExtendWith (.ref s.heap.objs.size) (.ref l) (.ref s.heap.objs.size)) _ _ { s with heap := s.heap.push (seqObj "list" #[] 0) }
  unfold Builtin.List.listExtendWith
  have ho' : (s.heap.push (seqObj "list" #[] 0)).get? l = some o := Heap.get?_push_of_some _ ho
  refine wpAny_bind (wpAny_typeOf (T := "tuple") ⟨o, ho', hc⟩ ?_)
  have ht : (Value.type "tuple" == Value.type "tuple") = true := by rfl
  rw [if_pos (by rw [ht]; simp)]
  refine wpAny_bind (listItems_at ho' hd ?_)
  refine wpAny_bind (listItems_at (xs := #[]) (n := 0) (Heap.get?_push_size _ rfl) rfl ?_)
  rw [if_neg (by simp)]
  refine wpAny_bind (listUpdate_at (xs := #[]) (n := 0) (Heap.get?_push_size _ rfl) rfl ?_ (Nat.zero_le _) (by show (#[] ++ vs.toArray).size ≤ sizeLine + 1; simp only [Array.size_append, List.size_toArray, List.length_nil]; omega))
  refine wpAny_pure ?_
  show wpAny (model prog w) A (do
      let o ← load s.heap.objs.size
      match o.data with
      | .seq xs _ => pure xs.toList
      | _ => unsupported "internal:collect") Q E { s with heap := (s.heap.push (seqObj "list" #[] 0)).update s.heap.objs.size (Obj.mapSeq (· ++ vs.toArray)) }
  refine wpAny_bind (wpAny_load (get?_update_seq (Heap.get?_push_size _ rfl) _) ?_)
  show wpAny _ _ (pure ((#[] : Array Value) ++ vs.toArray).toList) Q E _
  rw [show ((#[] : Array Value) ++ vs.toArray).toList = vs by simp]
  exact wpAny_pure h
theorem sorted_ordT {l : Addr} {vs : List Value} {ltv : Value → Value → Bool} {Q : Value → Shared → Prop} (O : Swo ltv) (hl : IsTup s.heap l vs.toArray) (hz : vs.length ≤ sizeLine)
    (hS : 2 ≤ vs.length → ∀ (h₁ : Heap) (a : Addr), h₁.get? a = some (seqObj "list" vs.toArray 0) → (∀ b o, s.heap.get? b = some o → b ≠ a ∧ h₁.get? b = some o) → SortableO prog w A.in1.in1 { s with heap := h₁ } a vs ltv)
    (h : ∀ out : List Value, Srtd ltv out → Stb ltv out vs → Q (.ref (s.heap.objs.size + 1)) { s with heap := sortedAll s.heap vs out.toArray }) :
    wpAny (model prog w) A (call (.builtin "sorted") [.ref l]) Q E s := by
  refine Calls.call_function_entry kind_sorted plain_sorted entry_sorted (args_sorted1 _) ?_
  unfold Builtin.«sorted»
  refine wpAny_bind (m := checkCount "sorted" 1 1 _) (wpAny_pure ?_)
  refine wpAny_bind (collect_tup hl ?_ hz)
  refine wpAny_bind (wpAny_newList ?_ hz)
  have hsz : ((s.heap.push (seqObj "list" #[] 0)).update s.heap.objs.size (Obj.mapSeq (· ++ vs.toArray))).objs.size = s.heap.objs.size + 1 := by
    rw [Heap.size_update, size_push']
  have hoL : (((s.heap.push (seqObj "list" #[] 0)).update s.heap.objs.size (Obj.mapSeq (· ++ vs.toArray))).push (seqObj "list" vs.toArray 0)).get? (s.heap.objs.size + 1) = some (seqObj "list" vs.toArray 0) := by
    rw [← hsz]; exact Heap.get?_push_size _ rfl
  have keep : ∀ b o, s.heap.get? b = some o → b ≠ s.heap.objs.size + 1 ∧ (((s.heap.push (seqObj "list" #[] 0)).update s.heap.objs.size (Obj.mapSeq (· ++ vs.toArray))).push (seqObj "list" vs.toArray 0)).get? b = some o := fun b o q => by
    have hlt : b < s.heap.objs.size := Heap.lt_size q
    refine ⟨Nat.ne_of_lt (Nat.lt_succ_of_lt hlt), Heap.get?_push_of_some _ ?_⟩
    rw [Heap.get?_update_ne _ _ _ _ (Nat.ne_of_lt hlt)]
    exact Heap.get?_push_of_some _ q
  show wpAny _ _ _ _ _ { s with heap := ((s.heap.push (seqObj "list" #[] 0)).update s.heap.objs.size (Obj.mapSeq (· ++ vs.toArray))).push (seqObj "list" vs.toArray 0) }
  rw [hsz]
  refine wpAny_bind (wpAny_holding (wpAny_call_entry slot_list_sort ⟨_, hoL, rfl⟩ entry_list_sort (list_sort_ord O hoL hz (fun h2 => hS h2 _ _ hoL keep) fun out hs hb => ⟨_, rfl, ?_⟩) (args_list_sort _)))
  exact wpAny_pure ⟨_, rfl, h out hs hb⟩
end
end SrtO
namespace PD
open PySem PySem.Spec PyProof.Rows L2
theorem call_sortedT {X : Cx} : CallR X (.builtin "sorted") (fun vs H Q => ∃ (a : Addr) (ns : List Int), vs = [.ref a] ∧ SqT X.K H a (ns.map V.int) ∧ ∀ (ns' : List Int) (p : Addr), ns'.Perm ns → ns'.Pairwise (· ≤ ·) → H p = none → Q (.ref p) (upd H p (.lst (ns'.map V.int)))) := by
  intro pins s σ H vs us Q I r h
  obtain ⟨a, ns, rfl, hs, q⟩ := h
  obtain ⟨its, rv, hl, hz⟩ := I.tuple hs
  rw [Vals.ref1 r]
  have hi := rv.ints
  refine SrtO.sorted_ordT SrtO.swo_int hl (by rw [← rv.length]; exact hz) (fun h2 h₁ a' _ _ => SrtO.ints_sortable hi h2) fun out h1 h2 => ?_
  obtain ⟨k1, k2, k3⟩ := SrtO.ints_out hi h1 h2
  obtain ⟨ep, he'⟩ := PyProof.Rows.sortedAll_at s.heap its out.toArray
  have hlen : ((out.map SrtO.iv).map V.int).length ≤ sizeLine := by
    rw [List.length_map, k2.length_eq]
    rw [List.length_map] at hz
    exact hz
  exact ⟨.ref _, upd H (s.heap.objs.size + 1) (.lst ((out.map SrtO.iv).map V.int)), I.laid (t' := s.toks) (fun _ _ => PyProof.Rows.sortedAll_old) (Nat.le_succ _) ⟨hlen, out, ep, vals_of_ints k1, he'⟩, rfl, q _ _ k2 k3 (I.hok.fresh (Nat.le_succ _))⟩
theorem perm_short {α : Type} : ∀ {l m : List α}, l.Perm m → m.length < 2 → l = m
  | _, [], h, _ => List.Perm.eq_nil h
  | _, [_], h, _ => List.perm_singleton.mp h
  | _, _ :: _ :: _, _, h => by simp at h; omega
/-- sorted(a list with one item at most) -/
theorem call_sorted1 {X : Cx} : CallR X (.builtin "sorted") (fun vs H Q => ∃ (a : Addr) (xs : List V), vs = [.ref a] ∧ SqL X.K H a xs ∧ xs.length < 2 ∧ ∀ (p : Addr), H p = none → Q (.ref p) (upd H p (.lst xs))) := by
  intro pins s σ H vs us Q I r h
  obtain ⟨a, xs, rfl, hs, hf, q⟩ := h
  obtain ⟨its, rv, hl, hz⟩ := I.list hs
  rw [Vals.ref1 r]
  have hf2 : its.length < 2 := by rw [← rv.length]; exact hf
  refine SrtO.sorted_ord (ltv := fun _ _ => false) ⟨fun _ _ h => (by cases h), fun _ _ _ h => by simp at h ⊢⟩ hl.isList (by rw [← rv.length]; exact hz) (fun h2 _ _ _ _ => absurd h2 (by omega)) fun out h1 h2 => ?_
  have e : out = its := perm_short h2.perm hf2
  subst e
  obtain ⟨ep, he'⟩ := PyProof.Rows.sortedAll_at s.heap out out.toArray
  exact ⟨.ref _, upd H (s.heap.objs.size + 1) (.lst xs), I.laid (t' := s.toks) (fun _ _ => PyProof.Rows.sortedAll_old) (Nat.le_succ _) ⟨hz, out, ep, rv, he'⟩, rfl, q _ (I.hok.fresh (Nat.le_succ _))⟩
end PD
set_option linter.all false
set_option maxRecDepth 100000
set_option maxHeartbeats 1000000
/-! Subscripts, slices, built-ins, by data. -/
namespace PD
open PySem PySem.Spec PyProof.Rows L2
section
variable {X : Cx}
theorem ixD_eq (n : Nat) (i : Int) : ixN n i = ixD n i := rfl
theorem atI_get {K : PySem.W.Frag} {H : Hp} {A : Addr → Prop} {ds : List D} {xs : List V} {k : Int} {d : D} (t : DvAll K H A ds xs) (h : (ixD ds.length k).bind (fun j => ds[j]?) = some d) : ∃ v, atI xs k = some v ∧ Dv K H A d v := by
  obtain ⟨j, e1, e2⟩ := Option.bind_eq_some_iff.mp h
  obtain ⟨v, e3, h3⟩ := t.get e2
  refine ⟨v, ?_, h3⟩
  unfold atI
  rw [ixD_eq, t.length, e1]
  exact e3
theorem ix_D : IxR X (rD2 X.K itemD) := by
  intro value slice pins s σ H x y v u Q I rx ry ⟨A, dx, dy, d, dA, hx, hy, hf, q⟩ hs
  cases dx <;> cases dy <;> simp only [itemD] at hf <;> try (cases hf; done)
  · obtain ⟨a, xs, rfl, h1, z1, t1⟩ := hx.l
    obtain ⟨w, e, hw⟩ := atI_get t1 hf
    exact ix_list value slice pins s σ H _ y v u Q I rx ry ⟨a, xs, _, w, rfl, hy.i, h1, e, q.here hw⟩ hs
  · obtain ⟨a, xs, rfl, h1, z1, t1⟩ := hx.t
    obtain ⟨w, e, hw⟩ := atI_get t1 hf
    exact ix_tup value slice pins s σ H _ y v u Q I rx ry ⟨a, xs, _, w, rfl, hy.i, h1, e, q.here hw⟩ hs
theorem sIx_eq (n d : Nat) (o : Option Int) : HT.sIx n d o = cutAt n d o := by cases o <;> rfl
def rSlD (K : PySem.W.Frag) : V → Option Int → Option Int → Hp → VK → Prop := fun x lo hi H Q => ∃ A dx d, Dom A H ∧ Di K H A dx x ∧ sliceD dx lo hi = some d ∧ Out K A H d Q
theorem sl_D : SlR X (rSlD X.K) := by
  intro pins s σ H x v vl vu lo hi sl Q I rx hs pl pu ⟨A, dx, d, dA, hx, hf, q⟩
  cases dx <;> simp only [sliceD] at hf <;> try (cases hf; done)
  · split at hf
    · rename_i z hz
      cases hf
      refine sl_str pins s σ H x v vl vu lo hi sl Q I rx hs pl pu ⟨_, hx.s, hz, ?_⟩
      have e : cutS z lo hi = (⟨(cutL z.cps.toList lo hi).toArray⟩ : Str) := by
        unfold cutS cutL
        rw [sIx_eq, sIx_eq, Array.length_toList]
        rfl
      rw [e]
      exact q.here (.ofS _)
    · cases hf
  · cases hf
    obtain ⟨a, xs, rfl, h1, z1, t1⟩ := hx.l
    exact sl_list pins s σ H _ v vl vu lo hi sl Q I rx hs pl pu ⟨a, xs, rfl, h1, fun p hp => q.lst dA hp (Nat.le_trans (cutV_length _ _ _) z1) (t1.cut lo hi)⟩
  · cases hf
    obtain ⟨a, xs, rfl, h1, z1, t1⟩ := hx.t
    refine sl_tupA pins s σ H _ v vl vu lo hi sl Q I rx hs pl pu ⟨a, xs, rfl, h1, fun hw => ?_, fun _ p hp => q.tup hp (Nat.le_trans (cutV_length _ _ _) z1) (t1.cut lo hi)⟩
    refine q.here (.mkT h1 z1 ?_)
    have t2 := t1.cut lo hi
    have e : cutV xs lo hi = xs := by
      unfold cutV
      rw [hw.1, hw.2]
      simp
    rw [e] at t2
    exact t2
/-! ### built-ins of one value -/
/-- as rD1, of an argument list of one -/
def rC1 (K : PySem.W.Frag) (f : D → Option D) : List V → Hp → VK → Prop := fun vs H Q => ∃ x, vs = [x] ∧ rD1 K f x H Q
theorem call_lenD : CallR X (.builtin "len") (rC1 X.K (bltD .len)) := by
  intro pins s σ H vs us Q I r ⟨x, e, A, dx, d, dA, hx, hf, q⟩
  subst e
  cases dx <;> simp only [bltD] at hf <;> try (cases hf; done)
  · split at hf
    · rename_i hz
      cases hf
      exact call_len pins s σ H _ us Q I r ⟨x, _, rfl, by rw [hx.s]; exact ⟨hz, rfl⟩, q.here (.ofI _)⟩
    · cases hf
  · cases hf
    obtain ⟨a, xs, rfl, h1, z1, t1⟩ := hx.l
    exact call_len pins s σ H _ us Q I r ⟨_, _, rfl, .inl ⟨xs, h1, t1.length.symm⟩, q.here (.ofI _)⟩
  · cases hf
    obtain ⟨a, xs, rfl, h1, z1, t1⟩ := hx.t
    exact call_len pins s σ H _ us Q I r ⟨_, _, rfl, .inr ⟨xs, h1, t1.length.symm⟩, q.here (.ofI _)⟩
theorem call_absD : CallR X (.builtin "abs") (rC1 X.K (bltD .abs)) := by
  intro pins s σ H vs us Q I r ⟨x, e, A, dx, d, dA, hx, hf, q⟩
  subst e
  cases dx <;> simp only [bltD] at hf <;> try (cases hf; done)
  cases hf
  exact call_abs pins s σ H _ us Q I r ⟨_, by rw [hx.i], q.here (.ofI _)⟩
theorem call_intD : CallR X (.type "int") (rC1 X.K (bltD .int)) := by
  intro pins s σ H vs us Q I r ⟨x, e, A, dx, d, dA, hx, hf, q⟩
  subst e
  cases dx <;> simp only [bltD] at hf <;> try (cases hf; done)
  · cases hf
    exact call_int1 pins s σ H _ us Q I r (.inr ⟨_, by rw [hx.b], q.here (.ofI _)⟩)
  · cases hf
    exact call_int1 pins s σ H _ us Q I r (.inl ⟨_, by rw [hx.i], q.here (.ofI _)⟩)
  · split at hf
    · rename_i n hn
      split at hf
      · rename_i hz
        cases hf
        exact call_int_str pins s σ H _ us Q I r ⟨_, n, by rw [hx.s], hn, hz, q.here (.ofI _)⟩
      · cases hf
    · cases hf
theorem call_boolD : CallR X (.type "bool") (rC1 X.K (bltD .bool)) := by
  intro pins s σ H vs us Q I r ⟨x, e, A, dx, d, dA, hx, hf, q⟩
  subst e
  cases dx <;> simp only [bltD] at hf <;> try (cases hf; done)
  cases hf
  exact call_bool1 pins s σ H _ us Q I r (.inr ⟨_, by rw [hx.b], q.here (.ofB _)⟩)
theorem call_strD : CallR X (.type "str") (rC1 X.K (bltD .str)) := by
  intro pins s σ H vs us Q I r ⟨x, e, A, dx, d, dA, hx, hf, q⟩
  subst e
  cases dx <;> simp only [bltD] at hf <;> try (cases hf; done)
  split at hf
  · rename_i hz
    cases hf
    exact call_str_int pins s σ H _ us Q I r ⟨_, by rw [hx.i], hz, q.here (.ofS _)⟩
  · cases hf
theorem call_tupleD : CallR X (.type "tuple") (rC1 X.K (bltD .tuple)) := by
  intro pins s σ H vs us Q I r ⟨x, e, A, dx, d, dA, hx, hf, q⟩
  subst e
  cases dx <;> simp only [bltD] at hf <;> try (cases hf; done)
  · cases hf
    obtain ⟨a, xs, rfl, h1, z1, t1⟩ := hx.l
    exact call_tuple_of pins s σ H _ us Q I r ⟨a, xs, rfl, .inl ⟨h1, fun p hp => q.tup hp z1 t1⟩⟩
  · cases hf
    obtain ⟨a, xs, rfl, h1, z1, t1⟩ := hx.t
    exact call_tuple_of pins s σ H _ us Q I r ⟨a, xs, rfl, .inr ⟨h1, q.here (.mkT h1 z1 t1)⟩⟩
theorem call_listD : CallR X (.type "list") (rC1 X.K (bltD .list)) := by
  intro pins s σ H vs us Q I r ⟨x, e, A, dx, d, dA, hx, hf, q⟩
  subst e
  cases dx <;> simp only [bltD] at hf <;> try (cases hf; done)
  · cases hf
    obtain ⟨a, xs, rfl, h1, z1, t1⟩ := hx.l
    exact call_list_of pins s σ H _ us Q I r ⟨a, xs, rfl, .inl h1, fun p hp => q.lst dA hp z1 t1⟩
  · cases hf
    obtain ⟨a, xs, rfl, h1, z1, t1⟩ := hx.t
    exact call_list_of pins s σ H _ us Q I r ⟨a, xs, rfl, .inr h1, fun p hp => q.lst dA hp z1 t1⟩
theorem call_sumD (hc : X.calm = true) : CallR X (.builtin "sum") (rC1 X.K (bltD .sum)) := by
  intro pins s σ H vs us Q I r ⟨x, e, A, dx, d, dA, hx, hf, q⟩
  subst e
  cases dx <;> simp only [bltD] at hf <;> try (cases hf; done)
  obtain ⟨ns, e1, rfl⟩ := Option.map_eq_some_iff.mp hf
  obtain ⟨a, xs, rfl, h1, z1, t1⟩ := hx.l
  rw [t1.ints e1] at h1
  exact cr_sum hc pins s σ H _ us Q I r ⟨a, ns, rfl, h1, q.here (.ofI _)⟩
theorem call_anyD (hc : X.calm = true) : CallR X (.builtin "any") (rC1 X.K (bltD .any)) := by
  intro pins s σ H vs us Q I r ⟨x, e, A, dx, d, dA, hx, hf, q⟩
  subst e
  cases dx <;> simp only [bltD] at hf <;> try (cases hf; done)
  obtain ⟨ns, e1, rfl⟩ := Option.map_eq_some_iff.mp hf
  obtain ⟨a, xs, rfl, h1, z1, t1⟩ := hx.l
  rw [t1.bools e1] at h1
  exact cr_any hc pins s σ H _ us Q I r ⟨a, ns, rfl, h1, q.here (.ofB _)⟩
theorem call_allD (hc : X.calm = true) : CallR X (.builtin "all") (rC1 X.K (bltD .all)) := by
  intro pins s σ H vs us Q I r ⟨x, e, A, dx, d, dA, hx, hf, q⟩
  subst e
  cases dx <;> simp only [bltD] at hf <;> try (cases hf; done)
  obtain ⟨ns, e1, rfl⟩ := Option.map_eq_some_iff.mp hf
  obtain ⟨a, xs, rfl, h1, z1, t1⟩ := hx.l
  rw [t1.bools e1] at h1
  exact cr_all hc pins s σ H _ us Q I r ⟨a, ns, rfl, h1, q.here (.ofB _)⟩
theorem un_negD : UnR X (unaryOp .USub) (rD1 X.K (bltD .neg)) := by
  intro pins s σ H x v Q I rx ⟨A, dx, d, dA, hx, hf, q⟩
  cases dx <;> simp only [bltD] at hf <;> try (cases hf; done)
  cases hf
  exact un_neg pins s σ H x v Q I rx ⟨_, hx.i, q.here (.ofI _)⟩
/-! ### sorting -/
theorem insI_perm (x : Int) : ∀ ys, (insI x ys).Perm (x :: ys)
  | [] => .refl _
  | y :: r => by
    unfold insI
    split
    · exact .refl _
    · exact ((insI_perm x r).cons y).trans (.swap x y r)
theorem sortI_perm : ∀ xs, (sortI xs).Perm xs
  | [] => .refl _
  | x :: r => (insI_perm x (sortI r)).trans ((sortI_perm r).cons x)
theorem insI_le (x : Int) : ∀ ys : List Int, ys.Pairwise (· ≤ ·) → (insI x ys).Pairwise (· ≤ ·)
  | [], _ => by simp [insI]
  | y :: r, h => by
    unfold insI
    obtain ⟨h1, h2⟩ := List.pairwise_cons.mp h
    split
    · rename_i hxy
      refine List.pairwise_cons.mpr ⟨fun z hz => ?_, h⟩
      rcases List.mem_cons.mp hz with rfl | hz
      · exact hxy
      · exact Int.le_trans hxy (h1 z hz)
    · rename_i hxy
      refine List.pairwise_cons.mpr ⟨fun z hz => ?_, insI_le x r h2⟩
      rcases List.mem_cons.mp ((insI_perm x r).mem_iff.mp hz) with rfl | hz
      · omega
      · exact h1 z hz
theorem sortI_le : ∀ xs : List Int, (sortI xs).Pairwise (· ≤ ·)
  | [] => .nil
  | x :: r => insI_le x _ (sortI_le r)
theorem sorted_one : ∀ {xs ys : List Int}, xs.Perm ys → xs.Pairwise (· ≤ ·) → ys.Pairwise (· ≤ ·) → xs = ys
  | [], ys, p, _, _ => (List.nil_perm.mp p).symm ▸ rfl
  | x :: xs, [], p, _, _ => absurd p.symm (by simp)
  | x :: xs, y :: ys, p, h1, h2 => by
    obtain ⟨a1, a2⟩ := List.pairwise_cons.mp h1
    obtain ⟨b1, b2⟩ := List.pairwise_cons.mp h2
    have e : x = y := by
      have m1 : x ∈ y :: ys := p.mem_iff.mp List.mem_cons_self
      have m2 : y ∈ x :: xs := p.mem_iff.mpr List.mem_cons_self
      rcases List.mem_cons.mp m1 with e | m1
      · exact e
      · rcases List.mem_cons.mp m2 with e | m2
        · exact e.symm
        · have := a1 y m2
          have := b1 x m1
          omega
    subst e
    rw [sorted_one (List.Perm.cons_inv p) a2 b2]
theorem call_sortedD : CallR X (.builtin "sorted") (rC1 X.K (bltD .sorted)) := by
  intro pins s σ H vs us Q I r ⟨x, e, A, dx, d, dA, hx, hf, q⟩
  subst e
  cases dx <;> simp only [bltD, sortL] at hf <;> try (cases hf; done)
  · split at hf
    · rename_i hs
      cases hf
      obtain ⟨a, xs, rfl, h1, z1, t1⟩ := hx.l
      exact call_sorted1 pins s σ H _ us Q I r ⟨a, xs, rfl, h1, by rw [t1.length]; exact hs, fun p hn => q.lst dA hn z1 t1⟩
    obtain ⟨ns, e1, rfl⟩ := Option.map_eq_some_iff.mp hf
    obtain ⟨a, xs, rfl, h1, z1, t1⟩ := hx.l
    have ex := t1.ints e1
    rw [ex] at h1 z1
    rw [List.length_map] at z1
    refine cr_sortedI pins s σ H _ us Q I r ⟨a, ns, rfl, h1, fun ns' p hp hs hn => ?_⟩
    have e2 : ns' = sortI ns := sorted_one (hp.trans (sortI_perm ns).symm) hs (sortI_le ns)
    subst e2
    exact q.lst dA hn (by rw [List.length_map, (sortI_perm ns).length_eq]; exact z1) (.ofInts _)
  · obtain ⟨ns, e1, rfl⟩ := Option.map_eq_some_iff.mp hf
    obtain ⟨a, xs, rfl, h1, z1, t1⟩ := hx.t
    have ex := t1.ints e1
    rw [ex] at h1 z1
    rw [List.length_map] at z1
    refine call_sortedT pins s σ H _ us Q I r ⟨a, ns, rfl, h1, fun ns' p hp hs hn => ?_⟩
    have e2 : ns' = sortI ns := sorted_one (hp.trans (sortI_perm ns).symm) hs (sortI_le ns)
    subst e2
    exact q.lst dA hn (by rw [List.length_map, (sortI_perm ns).length_eq]; exact z1) (.ofInts _)
theorem call_max2D (hc : X.calm = true) : CallR X (.builtin "max") (fun vs H Q => ∃ x y, vs = [x, y] ∧ rD2 X.K (blt2D .max) x y H Q) := by
  intro pins s σ H vs us Q I r ⟨x, y, e, A, dx, dy, d, dA, hx, hy, hf, q⟩
  subst e
  cases dx <;> cases dy <;> simp only [blt2D] at hf <;> try (cases hf; done)
  cases hf
  exact call_max2 hc pins s σ H _ us Q I r ⟨_, _, by rw [hx.i, hy.i], q.here (.ofI _)⟩
theorem call_min2D (hc : X.calm = true) : CallR X (.builtin "min") (fun vs H Q => ∃ x y, vs = [x, y] ∧ rD2 X.K (blt2D .min) x y H Q) := by
  intro pins s σ H vs us Q I r ⟨x, y, e, A, dx, dy, d, dA, hx, hy, hf, q⟩
  subst e
  cases dx <;> cases dy <;> simp only [blt2D] at hf <;> try (cases hf; done)
  cases hf
  exact call_min2 hc pins s σ H _ us Q I r ⟨_, _, by rw [hx.i, hy.i], q.here (.ofI _)⟩
/-! ### isinstance -/
def tyN : Ty → String
  | .int => "int" | .bool => "bool" | .str => "str" | .tuple => "tuple" | .list => "list"
theorem sqL_ty {K : PySem.W.Frag} {H : Hp} {a : Addr} {xs : List V} (h : SqL K H a xs) : TyX K H (.ref a) (.type "list") := by
  rcases h with (h | ⟨o, h⟩) | ⟨o, its, n, h, c, _⟩
  · exact .base (.lst h)
  · exact .base (.frz h)
  · exact .kList h c
theorem sqT_ty {K : PySem.W.Frag} {H : Hp} {a : Addr} {xs : List V} (h : SqT K H a xs) : TyX K H (.ref a) (.type "tuple") := by
  rcases h with (h | ⟨o, h⟩) | ⟨o, its, n, h, c, _⟩
  · exact .base (.tup h)
  · exact .fTuple h
  · exact .kTuple h c
def tyD : D → String
  | .none => "NoneType" | .bool _ => "bool" | .int _ => "int" | .str _ => "str" | .list _ => "list" | .tuple _ => "tuple" | .dict _ => "dict"
theorem dv_ty {K : PySem.W.Frag} {H : Hp} {A : Addr → Prop} {d : D} {v : V} (h : Di K H A d v) : TyX K H v (.type (tyD d)) := by
  cases d with
  | none => rw [h.n]; exact .base .non
  | bool b => rw [h.b]; exact .base (.bl b)
  | int i => rw [h.i]; exact .base (.int i)
  | str x => rw [h.s]; exact .base (.str x)
  | list ds => obtain ⟨a, xs, rfl, h1, _⟩ := h.l; exact sqL_ty h1
  | tuple ds => obtain ⟨a, xs, rfl, h1, _⟩ := h.t; exact sqT_ty h1
  | dict _ => exact (Di.no h).elim
def kitT : List (String × String × Bool) := ["NoneType", "bool", "int", "str", "list", "tuple"].flatMap fun a => ["int", "bool", "str", "tuple", "list"].map fun b => (a, b, (kitB a b).getD false)
theorem kit_all : (["NoneType", "bool", "int", "str", "list", "tuple"].all fun a => ["int", "bool", "str", "tuple", "list"].all fun b => decide (kitB a b = some (a == b || (a == "bool" && b == "int")))) = true := by decide +kernel
theorem isi_kit {K : PySem.W.Frag} {t : Ty} {d : D} {b : Bool} (h : isiD t d = some b) : PySem.W.kitOne K (.type (tyD d)) (.type (tyN t)) = some b := by
  have k := kit_all
  simp only [List.all_cons, List.all_nil, Bool.and_true, Bool.and_eq_true, decide_eq_true_eq] at k
  refine kit_ty ?_
  cases t <;> cases d <;> simp only [isiD] at h <;> (try (cases h; done)) <;> cases h <;> simp only [tyD, tyN, k] <;> rfl
theorem call_isiD (t : Ty) : CallR X (.builtin "isinstance") (fun vs H Q => ∃ x A dx b, vs = [x, .ty (tyN t)] ∧ Di X.K H A dx x ∧ isiD t dx = some b ∧ Q (.bl b) H) := by
  intro pins s σ H vs us Q I r ⟨x, A, dx, b, e, hx, hf, q⟩
  subst e
  exact call_isi pins s σ H _ us Q I r ⟨x, .ty (tyN t), .type (tyD dx), .type (tyN t), b, rfl, .ty _, dv_ty hx, isi_kit hf, q⟩
end
end PD
set_option linter.all false
set_option maxRecDepth 100000
set_option maxHeartbeats 1000000
/-! A dict whose keys are tuples of ints: each key is known as a tuple that stands (tracked, frozen or the module's). -/
namespace PD
open PySem PySem.Spec PyProof.Rows L2
/-- the entries: key, where the key stands, value -/
abbrev Ent := List Int × Addr × V
abbrev EntU := List Int × Addr × Value
def EntR : List Ent → List EntU → Prop := Paired fun p q => p.1 = q.1 ∧ p.2.1 = q.2.1 ∧ RelV p.2.2 q.2.2
/-- an entry of a dict, whatever the program -/
def entU (x : EntU) : DictEntry := ⟨reduceHash (Builtin.Tuple.tupleHashOf (x.1.map hashInt)), .ref x.2.1, x.2.2⟩
def DictI (h : Heap) (a : Addr) (xs : List Ent) : Prop := xs.length ≤ sizeLine ∧ (a == sysModules) = false ∧ ∃ us : List EntU, EntR xs us ∧
  ∃ o es ep, h.get? a = some o ∧ o.ExactDict ∧ o.data = .dict es ep ∧ es.toList = us.map entU ∧ (us.map (·.1)).Nodup
def DictO (a : Addr) (xs : List Ent) : HO := .ext fun h => DictI h a xs
/-- each key stands -/
def KeysOk (K : PySem.W.Frag) (H : Hp) (xs : List Ent) : Prop := ∀ x ∈ xs, SqT K H x.2.1 (x.1.map V.int)
def getX (xs : List Ent) (k : List Int) : Option V := (xs.find? fun x => decide (x.1 = k)).map (·.2.2)
def putX (xs : List Ent) (k : List Int) (b : Addr) (v : V) : List Ent :=
  if (getX xs k).isSome then xs.map (fun x => if x.1 = k then (x.1, x.2.1, v) else x) else xs ++ [(k, b, v)]
theorem dictI_ok {P : Program} {w : World} {H : Hp} {h : Heap} {a : Addr} {xs : List Ent} (d : DictI h a xs) : ObjOk P w H h a (DictO a xs) :=
  ⟨d, (let ⟨_, _, _, _, o, _, _, e, _⟩ := d; ⟨o, e⟩), fun h1 h2 q k => by
    obtain ⟨z, y, us, r, o, es, ep, e, c⟩ := q
    exact ⟨z, y, us, r, o, es, ep, k _ e, c⟩⟩
theorem EntR.get {xs : List Ent} {us : List EntU} (r : EntR xs us) (k : List Int) : RelO (getX xs k) ((atKey us k).map (·.2)) := by
  induction r with
  | nil => exact True.intro
  | @cons p q ps qs h t ih =>
    obtain ⟨h1, _, h2⟩ := h
    by_cases e : p.1 = k
    · have e' : q.1 = k := h1.symm.trans e
      have b : atKey (q :: qs) k = some q.2 := by simp [atKey, List.find?_cons, e']
      have c : getX (p :: ps) k = some p.2.2 := by simp [getX, List.find?_cons, e]
      rw [b, c]; exact h2
    · have e' : ¬ q.1 = k := fun z => e (h1.trans z)
      have b : atKey (q :: qs) k = atKey qs k := by simp [atKey, List.find?_cons, e']
      have c : getX (p :: ps) k = getX ps k := by simp [getX, List.find?_cons, e]
      rw [b, c]; exact ih
theorem EntR.repl {xs : List Ent} {us : List EntU} (r : EntR xs us) (k : List Int) {y : V} {u : Value} (ry : RelV y u) :
    EntR (xs.map fun x => if x.1 = k then (x.1, x.2.1, y) else x) (us.map (putAt k u)) := by
  induction r with
  | nil => exact .nil
  | @cons p q ps qs h t ih =>
    rw [List.map_cons, List.map_cons]
    refine .cons ?_ ih
    obtain ⟨h1, h2, h3⟩ := h
    unfold putAt
    by_cases e : p.1 = k
    · rw [if_pos e, if_pos (h1.symm.trans e)]; exact ⟨h1, h2, ry⟩
    · rw [if_neg e, if_neg (fun z => e (h1.trans z))]; exact ⟨h1, h2, h3⟩
theorem EntR.put {xs : List Ent} {us : List EntU} (r : EntR xs us) (k : List Int) (b : Addr) {y : V} {u : Value} (ry : RelV y u) : EntR (putX xs k b y) (storedH us k b u) := by
  have e : (getX xs k).isSome = (atKey us k).isSome := by
    have := (r.get k).isSome_eq
    rw [Option.isSome_map] at this
    exact this
  unfold putX storedH
  rw [e]
  cases q : (atKey us k).isSome
  · exact Paired.snoc r ⟨rfl, rfl, ry⟩
  · exact r.repl k ry
theorem length_putX (xs : List Ent) (k : List Int) (b : Addr) (v : V) : (putX xs k b v).length ≤ xs.length + 1 := by
  unfold putX
  split
  · rw [List.length_map]; omega
  · rw [List.length_append, List.length_cons, List.length_nil]; omega
theorem keys_putX {K : PySem.W.Frag} {H : Hp} {xs : List Ent} {k : List Int} {b : Addr} {v : V} (h : KeysOk K H xs) (hb : SqT K H b (k.map V.int)) : KeysOk K H (putX xs k b v) := by
  unfold putX
  split
  · intro x hx
    obtain ⟨y, hy, rfl⟩ := List.mem_map.mp hx
    by_cases e : y.1 = k
    · rw [if_pos e]; exact h y hy
    · rw [if_neg e]; exact h y hy
  · intro x hx
    rcases List.mem_append.mp hx with hx | hx
    · exact h x hx
    · rw [List.mem_singleton.mp hx]; exact hb
theorem KeysOk.thru {K : PySem.W.Frag} {H H' : Hp} {xs : List Ent} (h : KeysOk K H xs) (t : ∀ a ys, SqT K H a ys → SqT K H' a ys) : KeysOk K H' xs := fun x hx => t _ _ (h x hx)
theorem items_int {P : Program} {w : World} : ∀ {ks : List Int} {us : List Value}, Vals (ks.map V.int) us → ItemsAre (intKind P w) ks us
  | [], _, r => by rw [List.map_nil] at r; cases r; exact .nil
  | k :: ks, _, r => by
    rw [List.map_cons] at r
    cases r with
    | cons h t =>
      obtain ⟨t', e⟩ := h
      subst e
      exact .cons (intKind_is P w k t') (items_int t)
section
variable {X : Cx} {pins : List (Addr × Obj)} {σ : L2.St} {H : Hp} {s : Shared} {a : Addr} {v : V} {A : Around} {E : Value → Shared → Prop}
theorem keyI_of {ks : List Int} {b : Addr} (I : Inv X pins σ H s) (h : SqT X.K H b (ks.map V.int)) : (tupleKind (intKind X.prog X.w)).is s.heap ks b := by
  obtain ⟨its, r, ⟨o, h1, h2, n, h3⟩, _⟩ := I.tuple h
  exact ⟨o, its.toArray, n, h1, h2, h3, by simpa using items_int r⟩
theorem entU_eq {P : Program} {w : World} : entryOfKey (tupleKind (intKind P w)) = entU := rfl
theorem dictH_of {xs : List Ent} (I : Inv X pins σ H s) (e : H a = some (DictO a xs)) (hk : KeysOk X.K H xs) : xs.length ≤ sizeLine ∧ (a == sysModules) = false ∧
    ∃ us : List EntU, EntR xs us ∧ s.heap.DictOfH (tupleKind (intKind X.prog X.w)) a us := by
  obtain ⟨⟨z, y, us, r, o, es, ep, h1, h2, h3, h4, h5⟩, _⟩ := (show ObjOk X.prog X.w H s.heap a (DictO a xs) from I.hok a _ e)
  refine ⟨z, y, us, r, o, es, ep, h1, h2, h3, h4, ?_, h5⟩
  have all : ∀ {l : List Ent} {m : List EntU}, EntR l m → KeysOk X.K H l → ∀ x ∈ m, (tupleKind (intKind X.prog X.w)).is s.heap x.1 x.2.1 := by
    intro l m q
    induction q with
    | nil => intro _ x hx; exact nomatch hx
    | @cons p q ps qs hq t ih =>
      intro hl x hx
      rcases List.mem_cons.mp hx with e | hx
      · subst e
        have := keyI_of I (hl p List.mem_cons_self)
        rw [hq.1, hq.2.1] at this
        exact this
      · exact ih (fun y hy => hl y (List.mem_cons_of_mem _ hy)) x hx
  exact all r hk
/-- d[y], there -/
theorem dI_getItem {xs : List Ent} {b : Addr} {ks : List Int} {Q : Value → Shared → Prop} (hu : A.units + 1 < cLine) (I : Inv X pins σ H s) (e : H a = some (DictO a xs)) (hk : KeysOk X.K H xs) (hb : SqT X.K H b (ks.map V.int)) (l : getX xs ks = some v)
    (h : ∀ w' s', Inv X pins σ H s' → RelV v w' → Q w' s') : wpAny (model X.prog X.w) A (getItem (.ref a) (.ref b)) Q E s := by
  obtain ⟨z, hd, us, rel, dd⟩ := dictH_of I e hk
  obtain ⟨w', hw, rw'⟩ := RelO.some_of (v := v) (o := (atKey us ks).map (·.2)) (by rw [← l]; exact rel.get ks)
  obtain ⟨p, hp, hp2⟩ := Option.map_eq_some_iff.mp hw
  refine wpAny_getItem_heap (tupleKind_room_in1 hu) (keyI_of I hb) dd hp ?_
  rw [hp2]
  exact h w' _ (I.tok _) rw'
/-- d[y] = v -/
theorem dI_setItem {xs : List Ent} {b : Addr} {ks : List Int} {r : Value} {Q : Unit → Shared → Prop} (hu : A.units + 1 < cLine) (I : Inv X pins σ H s) (e : H a = some (DictO a xs)) (hk : KeysOk X.K H xs) (hb : SqT X.K H b (ks.map V.int)) (hl : xs.length < sizeLine)
    (rv : RelV v r) (h : ∀ s', Inv X pins σ (upd H a (DictO a (putX xs ks b v))) s' → Q () s') : wpAny (model X.prog X.w) A (setItem (.ref a) (.ref b) r) Q E s := by
  obtain ⟨z, hd, us, rel, dd⟩ := dictH_of I e hk
  have hz : us.length ≤ sizeLine := by rw [← Paired.length rel]; exact z
  have hl2 : (putX xs ks b v).length ≤ sizeLine := by have := length_putX xs ks b v; omega
  refine wpAny_setItem_heap (hsz := hz) (tupleKind_room_in1 hu) (keyI_of I hb) dd fun h' dd' hs => h _ ?_
  obtain ⟨q, es, ep, hq, h2, h3, h4, _, h5⟩ := dd'
  exact d_write I (by rw [e]; exact True.intro) hs ⟨q, hq⟩ (dictI_ok ⟨hl2, hd, _, rel.put ks b rv, q, es, ep, hq, h2, h3, h4, h5⟩)
theorem dictI_typeIs {xs : List Ent} (I : Inv X pins σ H s) (e : H a = some (DictO a xs)) : s.TypeIs (.ref a) "dict" := by
  obtain ⟨⟨z, y, us, r, o, es, ep, h1, h2, _⟩, _⟩ := (show ObjOk X.prog X.w H s.heap a (DictO a xs) from I.hok a _ e)
  exact ⟨o, h1, h2.1⟩
theorem dictI_empty {P : Program} {w : World} {H : Hp} (h : Heap) (hb : sysModules < h.objs.size) : ObjOk P w H (h.push { cls := .type "dict", data := .dict #[] }) h.objs.size (DictO h.objs.size []) :=
  dictI_ok ⟨Nat.zero_le _, beq_eq_false_iff_ne.mpr (Ne.symm (Nat.ne_of_lt hb)), [], .nil, _, #[], 0, Heap.get?_push_size _ rfl, ⟨rfl, rfl, rfl⟩, rfl, rfl, List.nodup_nil⟩
end
/-- {} -/
def tDI : TE := fun _ H Q => ∀ p, H p = none → Q (.ref p) (upd H p (DictO p []))
/-- d[y] -/
def tDIGet (K : PySem.W.Frag) (td ty : TE) : TE := fun σ H Q => td σ H fun x H1 => ty σ H1 fun y H2 => ∃ a xs b ks v, x = .ref a ∧ y = .ref b ∧ H2 a = some (DictO a xs) ∧ KeysOk K H2 xs ∧ SqT K H2 b (ks.map V.int) ∧ getX xs ks = some v ∧ Q v H2
/-- d[y] = v -/
def sDIPut (K : PySem.W.Frag) (td ty tv : TE) : TS := fun D σ H => tv σ H fun v H1 => td σ H1 fun x H2 => ty σ H2 fun y H3 => ∃ a xs b ks, x = .ref a ∧ y = .ref b ∧ H3 a = some (DictO a xs) ∧ KeysOk K H3 xs ∧ SqT K H3 b (ks.map V.int) ∧ xs.length < sizeLine ∧
  D.nx σ (upd H3 a (DictO a (putX xs ks b v)))
section
variable {X : Cx} {o i value : Expr} {pos pos' : Pos} {td ty tv : TE}
theorem pe_dI : PE X (.Dict [] [] pos) tDI := ⟨fun pins s σ H Q I h =>
  wpAny_Dict_empty ⟨.ref s.heap.objs.size, _, I.laid (a := s.heap.objs.size) (o := DictO s.heap.objs.size []) (t' := s.toks) (fun _ _ q => Heap.get?_push_of_some _ q) (Nat.le_refl _) (dictI_empty s.heap I.big), rfl, h _ (I.hok.fresh (Nat.le_refl _))⟩⟩
theorem pe_dIget (hu : X.A.units + 1 < cLine) (ho : PE X o td) (hi : PE X i ty) (hs : NoSl i) : PE X (.Subscript o i pos) (tDIGet X.K td ty) := by
  refine ⟨fun pins s σ H Q I h => ?_⟩
  refine subD_of PySem.F.slot_dict_getitem.lookup hs (thn (ho.run pins s σ H _ I h) fun u s1 ⟨x, H1, I1, rx, q1⟩ => thn (hi.run pins s1 σ H1 _ I1 q1) fun iv s2 ⟨y, H2, I2, ry, a, xs, b, ks, v, ex, ey, e, hk, hb, g, q2⟩ => ?_)
  subst ex ey
  obtain rfl : u = Value.ref a := rx
  obtain rfl : iv = Value.ref b := ry
  exact ⟨dictI_typeIs I2 e, dI_getItem hu I2 e hk hb g fun w' s3 I3 rw' => ⟨v, H2, I3, rw', q2⟩⟩
theorem ps_dIput (hu : X.A.units + 1 < cLine) (ho : PE X o td) (hi : PE X i ty) (hv : PE X value tv) (hs : swapsWith value (some (.Subscript o i pos')) pos.line X.env = pure false) :
    PS X (.Assign [.Subscript o i pos'] value pos) (sDIPut X.K td ty tv) := by
  refine ⟨fun pins s σ H D I h => ?_⟩
  refine wpAny_Assign_Subscript (thn (hv.run pins s σ H _ I h) fun r s1 ⟨v, H1, I1, rv, q1⟩ => thn (ho.run pins s1 σ H1 _ I1 q1) fun u s2 ⟨x, H2, I2, rx, q2⟩ => thn (hi.run pins s2 σ H2 _ I2 q2) fun iv s3 ⟨y, H3, I3, ry, a, xs, b, ks, ex, ey, e, hk, hb, hl, q3⟩ => ?_) hs
  subst ex ey
  obtain rfl : u = Value.ref a := rx
  obtain rfl : iv = Value.ref b := ry
  exact dI_setItem hu I3 e hk hb hl rv fun s4 I4 => ⟨σ, _, I4, q3⟩
end
end PD
namespace PD
open PySem PySem.Spec PyProof.Rows L2
theorem DictO.nl {a : Addr} {xs : List Ent} {ys : List V} : DictO a xs ≠ .lst ys := fun h => by unfold DictO at h; cases h
theorem DictO.ni {a C : Addr} {dx : Addr} {xs : List Ent} {gs : List (Str × V)} : DictO a xs ≠ .ins C dx gs := fun h => by unfold DictO at h; cases h
theorem DictO.nt {a : Addr} {xs : List Ent} {ys : Array Value} : DictO a xs ≠ .tbl ys := fun h => by unfold DictO at h; cases h
theorem DictO.nu {a : Addr} {xs : List Ent} {ys : List V} : DictO a xs ≠ .tup ys := fun h => by unfold DictO at h; cases h
theorem DictO.nf {a : Addr} {xs : List Ent} {o : Obj} {u : HO} : DictO a xs ≠ .frz o u := fun h => by unfold DictO at h; cases h
/-- the data of a dict -/
def DicR (K : PySem.W.Frag) (H : Hp) (A : Addr → Prop) : List (List Int × D) → List Ent → Prop := Paired fun p q => p.1 = q.1 ∧ Dv K H A p.2 q.2.2
section
variable {K : PySem.W.Frag} {H H' : Hp} {A A' : Addr → Prop} {kvs : List (List Int × D)} {xs : List Ent}
theorem DicR.thru (e : Thru K H H' A A') (r : DicR K H A kvs xs) : DicR K H' A' kvs xs := Paired.mapP r fun p q h => ⟨h.1, Dv.thru e _ h.2⟩
theorem DicR.less (e : ∀ a, A' a → A a) (r : DicR K H A kvs xs) : DicR K H A' kvs xs := r.thru (.less e)
theorem DicR.length (r : DicR K H A kvs xs) : kvs.length = xs.length := Paired.length r
theorem DicR.get (r : DicR K H A kvs xs) {k : List Int} {d : D} (h : getDk kvs k = some d) : ∃ v, getX xs k = some v ∧ Dv K H A d v := by
  induction r with
  | nil => cases h
  | @cons p q ps qs hq t ih =>
    obtain ⟨h1, h2⟩ := hq
    by_cases e : p.1 = k
    · have e' : q.1 = k := h1.symm.trans e
      have b : getDk (p :: ps) k = some p.2 := by simp [getDk, List.find?_cons, e]
      rw [b] at h
      cases h
      exact ⟨q.2.2, by simp [getX, List.find?_cons, e'], h2⟩
    · have e' : ¬ q.1 = k := fun z => e (h1.trans z)
      have b : getDk (p :: ps) k = getDk ps k := by simp [getDk, List.find?_cons, e]
      have c : getX (q :: qs) k = getX qs k := by simp [getX, List.find?_cons, e']
      rw [b] at h
      rw [c]; exact ih h
theorem DicR.some_eq (r : DicR K H A kvs xs) (k : List Int) : (getDk kvs k).isSome = (getX xs k).isSome := by
  induction r with
  | nil => rfl
  | @cons p q ps qs hq t ih =>
    obtain ⟨h1, h2⟩ := hq
    by_cases e : p.1 = k
    · have e' : q.1 = k := h1.symm.trans e
      simp [getDk, getX, List.find?_cons, e, e']
    · have e' : ¬ q.1 = k := fun z => e (h1.trans z)
      have b : getDk (p :: ps) k = getDk ps k := by simp [getDk, List.find?_cons, e]
      have c : getX (q :: qs) k = getX qs k := by simp [getX, List.find?_cons, e']
      rw [b, c]; exact ih
theorem DicR.repl (r : DicR K H A kvs xs) (k : List Int) {d : D} {v : V} (hv : Dv K H A d v) :
    DicR K H A (kvs.map fun x => if x.1 = k then (x.1, d) else x) (xs.map fun x => if x.1 = k then (x.1, x.2.1, v) else x) := by
  induction r with
  | nil => exact .nil
  | @cons p q ps qs hq t ih =>
    rw [List.map_cons, List.map_cons]
    refine .cons ?_ ih
    obtain ⟨h1, h2⟩ := hq
    by_cases e : p.1 = k
    · rw [if_pos e, if_pos (h1.symm.trans e)]; exact ⟨h1, hv⟩
    · rw [if_neg e, if_neg (fun z => e (h1.trans z))]; exact ⟨h1, h2⟩
theorem DicR.put (r : DicR K H A kvs xs) (k : List Int) (b : Addr) {d : D} {v : V} (hv : Dv K H A d v) : DicR K H A (putDk kvs k d) (putX xs k b v) := by
  unfold putDk putX
  rw [r.some_eq k]
  cases q : (getX xs k).isSome
  · exact Paired.snoc r ⟨rfl, hv⟩
  · exact r.repl k hv
end
end PD
set_option linter.all false
set_option maxRecDepth 100000
set_option maxHeartbeats 1000000
/-! What holds of slots and heap while a body runs. -/
namespace PD
open PySem PySem.Spec PyProof.Rows L2
/-- from one heap to a later one: all stands but what M names, and the tables of code objects -/
structure Ext (T : List (Addr × Str)) (M : Addr → Prop) (H H' : Hp) : Prop where
  keep : ∀ a o, H a = some o → ¬ M a → (∀ ps, o ≠ .tbl ps) → H' a = some o
  tups : ∀ a xs, H a = some (.tup xs) → H' a = some (.tup xs)
  frzs : ∀ a o u, H a = some (.frz o u) → H' a = some (.frz o u)
  tabs : LamX.Tabs T H → LamX.Tabs T H'
section
variable {T : List (Addr × Str)} {M M' A : Addr → Prop} {H H1 H' : Hp} {K : PySem.W.Frag}
theorem Ext.refl : Ext T M H H := ⟨fun _ _ h _ _ => h, fun _ _ h => h, fun _ _ _ h => h, fun h => h⟩
theorem Ext.trans (a : Ext T M H H1) (b : Ext T M H1 H') : Ext T M H H' :=
  ⟨fun x o h n t => b.keep x o (a.keep x o h n t) n t, fun x xs h => b.tups x xs (a.tups x xs h), fun x o u h => b.frzs x o u (a.frzs x o u h), fun h => b.tabs (a.tabs h)⟩
theorem Ext.same (e : Same H H') : Ext T M H H' := ⟨fun x o h _ _ => e x o h, fun x xs h => e _ _ h, fun x o u h => e _ _ h, fun h => h.ext e⟩
theorem Ext.mono (e : Ext T M H H') (h : ∀ a, M a → M' a) : Ext T M' H H' := ⟨fun x o q n t => e.keep x o q (fun z => n (h x z)) t, e.tups, e.frzs, e.tabs⟩
theorem Ext.thru (e : Ext T M H H') (h : ∀ a, M a → A a) : Thru K H H' A A := by
  refine ⟨fun a xs q => ?_, fun a xs q => ?_⟩
  · rcases q with q | ⟨o, q⟩ | q
    · exact .inl ⟨e.keep a _ q.1 (fun z => q.2 (h a z)) (fun ps z => by cases z), q.2⟩
    · exact .inr (.inl ⟨o, e.frzs a o _ q⟩)
    · exact .inr (.inr q)
  · rcases q with (q | ⟨o, q⟩) | q
    · exact .inl (.inl (e.tups a _ q))
    · exact .inl (.inr ⟨o, e.frzs a o _ q⟩)
    · exact .inr q
end
/-- nothing but a table of code objects stands there -/
def Nw (H : Hp) (a : Addr) : Prop := ∀ o, H a = some o → ∃ ps, o = .tbl ps
theorem Nw.of {H : Hp} {a : Addr} (h : H a = none) : Nw H a := fun o q => by rw [h] at q; cases q
theorem Nw.no {H : Hp} {a : Addr} {o : HO} {p : Prop} (h : Nw H a) (q : H a = some o) (t : ∀ ps, o ≠ .tbl ps) : p := by
  obtain ⟨ps, z⟩ := h o q
  exact (t ps z).elim
/-- what stands fast while a body runs -/
structure Fx where
  K : PySem.W.Frag
  T : List (Addr × Str)
  H0 : Hp
  b0 : Option Addr
  A0 : Addr → Prop
  O : List Nat
  Γ : Tab
  cls : Nat → Addr
  kp : List (D × V)
abbrev Slots := L2.St
/-- a slot whose list is written -/
def Own (e : SEnv) (i : Nat) : Prop := e[i]? = some .bag ∨ ∃ ds, e[i]? = some (.own ds)
def Av (F : Fx) (σ : Slots) (e : SEnv) (a : Addr) : Prop := F.A0 a ∨ ∃ i : Nat, Own e i ∧ σ[i]? = some (some (.ref a))
def Bm (σ : Slots) (e : SEnv) (a : Addr) : Prop := ∃ i : Nat, e[i]? = some .bag ∧ σ[i]? = some (some (.ref a))
def Ab (F : Fx) (σ : Slots) (e : SEnv) (a : Addr) : Prop := F.A0 a ∨ Bm σ e a
def Pr (F : Fx) (σ : Slots) (e : SEnv) (b : Bool) (a : Addr) : Prop := match b with
  | true => Av F σ e a
  | false => Ab F σ e a
/-- an instance, some of its fields by data -/
def InsR (K : PySem.W.Frag) (H : Hp) (A : Addr → Prop) (fs : List (Str × D)) (a : Addr) : Prop := ∃ C dx gs, H a = some (.ins C dx gs) ∧ Cls K C ∧ ∀ x d, fs.lookup x = some d → NoAttr K C x ∧ ∃ v, gs.lookup x = some v ∧ Dv K H A d v
theorem InsR.thru {K : PySem.W.Frag} {H H' : Hp} {A A' : Addr → Prop} {fs : List (Str × D)} {a : Addr} (h : InsR K H A fs a) (t : Thru K H H' A A') (e : ∀ C dx gs, H a = some (.ins C dx gs) → H' a = some (.ins C dx gs)) : InsR K H' A' fs a := by
  obtain ⟨C, dx, gs, h1, h2, h3⟩ := h
  refine ⟨C, dx, gs, e _ _ _ h1, h2, fun x d q => ?_⟩
  obtain ⟨n, v, l, hv⟩ := h3 x d q
  exact ⟨n, v, l, Dv.thru t d hv⟩
theorem InsR.less {K : PySem.W.Frag} {H : Hp} {A A' : Addr → Prop} {fs : List (Str × D)} {a : Addr} (h : InsR K H A fs a) (e : ∀ a, A' a → A a) : InsR K H A' fs a := h.thru (.less e) fun _ _ _ q => q
structure SI (F : Fx) (σ : Slots) (H : Hp) (e : SEnv) (B : Bg) : Prop where
  len : e.length = σ.length
  ext : Ext F.T (fun a => F.b0 = some a) F.H0 H
  tabs : LamX.Tabs F.T H
  dom' : Dom F.A0 H
  val : ∀ (i : Nat) (d : D), e[i]? = some (.val d) → ∃ v, σ[i]? = some (some v) ∧ Dv F.K H (Av F σ e) d v
  own : ∀ (i : Nat) (ds : List D), e[i]? = some (.own ds) → i ∈ F.O ∧ ∃ a xs, σ[i]? = some (some (.ref a)) ∧ H a = some (.lst xs) ∧ xs.length ≤ sizeLine ∧ DvAll F.K H (Av F σ e) ds xs ∧ Nw F.H0 a ∧ ¬ Ab F σ e a
  bag : ∀ i : Nat, e[i]? = some .bag → i ∈ F.O ∧ ∃ b, σ[i]? = some (some (.ref b)) ∧ H b = some (.lst (B.map V.int)) ∧ (F.b0 = some b ∨ Nw F.H0 b)
  inj : ∀ (i j : Nat) (a : Addr), Own e i → Own e j → σ[i]? = some (some (.ref a)) → σ[j]? = some (some (.ref a)) → i = j
  one : ∀ (i j : Nat), e[i]? = some .bag → e[j]? = some .bag → i = j
  b0 : ∀ b, F.b0 = some b → ∃ i : Nat, e[i]? = some .bag ∧ σ[i]? = some (some (.ref b))
  kp : ∀ p ∈ F.kp, Dj F.K H (Av F σ e) (Av F σ e) p.1 p.2
  dic : ∀ (i : Nat) (kvs : List (List Int × D)), e[i]? = some (.dic kvs) → i ∈ F.O ∧ ∃ a xs, σ[i]? = some (some (.ref a)) ∧ H a = some (DictO a xs) ∧ xs.length ≤ sizeLine ∧ DicR F.K H (Av F σ e) kvs xs ∧ KeysOk F.K H xs ∧ Nw F.H0 a ∧
    ∀ (j : Nat) (kws : List (List Int × D)), e[j]? = some (.dic kws) → σ[j]? = some (some (.ref a)) → j = i
  ins : ∀ (i : Nat) (a : Addr) (fs : List (Str × D)), e[i]? = some (.ins a fs) → i ∈ F.O ∧ σ[i]? = some (some (.ref a)) ∧ InsR F.K H (Av F σ e) fs a
section
variable {F : Fx} {σ : Slots} {H H1 H2 H' : Hp} {e : SEnv} {B B1 B2 B' : Bg}
theorem Bm.av {a : Addr} (h : Bm σ e a) : Av F σ e a := by
  obtain ⟨i, h1, h2⟩ := h
  exact .inr ⟨i, .inl h1, h2⟩
theorem Ab.av {a : Addr} (h : Ab F σ e a) : Av F σ e a := h.elim .inl (fun h => h.av)
theorem Pr.av {b : Bool} {a : Addr} (h : Pr F σ e b a) : Av F σ e a := by
  cases b
  · exact Ab.av h
  · exact h
theorem Ab.pr {b : Bool} {a : Addr} (h : Ab F σ e a) : Pr F σ e b a := by
  cases b
  · exact h
  · exact h.av
theorem Bm.pr {b : Bool} {a : Addr} (h : Bm σ e a) : Pr F σ e b a := Ab.pr (.inr h)
theorem Pr.le {b c : Bool} (h : b = true → c = true) {a : Addr} (q : Pr F σ e b a) : Pr F σ e c a := by
  cases b
  · exact Ab.pr q
  · rw [h rfl]; exact q
theorem SI.domA (I : SI F σ H e B) : Dom (Av F σ e) H := fun a h => by
  rcases h with h | ⟨i, h1, h2⟩
  · exact I.dom' a h
  · rcases h1 with h1 | ⟨ds, h1⟩
    · obtain ⟨_, b, e1, e2, _⟩ := I.bag i h1
      rw [h2] at e1; cases e1
      exact ⟨_, e2, fun ps z => by cases z⟩
    · obtain ⟨_, b, xs, e1, e2, _⟩ := I.own i ds h1
      rw [h2] at e1; cases e1
      exact ⟨_, e2, fun ps z => by cases z⟩
theorem SI.domP (I : SI F σ H e B) (b : Bool) : Dom (Pr F σ e b) H := fun a h => I.domA a h.av
/-- on to a later heap, the bag being B' there -/
structure Go (F : Fx) (σ : Slots) (H : Hp) (e : SEnv) (B' : Bg) (H' : Hp) : Prop where
  ext : Ext F.T (Bm σ e) H H'
  bag : ∀ (i : Nat) (b : Addr), e[i]? = some .bag → σ[i]? = some (some (.ref b)) → H' b = some (.lst (B'.map V.int))
theorem SI.here (I : SI F σ H e B) : Go F σ H e B H := ⟨.refl, fun i b h1 h2 => by
  obtain ⟨_, b', e1, e2, _⟩ := I.bag i h1
  rw [h2] at e1; cases e1
  exact e2⟩
theorem Go.trans (a : Go F σ H e B1 H1) (b : Go F σ H1 e B2 H2) : Go F σ H e B2 H2 := ⟨a.ext.trans b.ext, b.bag⟩
theorem Go.same (a : Go F σ H e B1 H1) (b : Same H1 H2) : Go F σ H e B1 H2 := ⟨a.ext.trans (.same b), fun i x h1 h2 => b _ _ (a.bag i x h1 h2)⟩
theorem Go.thru {b : Bool} (g : Go F σ H e B' H') : Thru F.K H H' (Pr F σ e b) (Pr F σ e b) := g.ext.thru fun _ h => h.pr
theorem Go.dv {b : Bool} {d : D} {v : V} (g : Go F σ H e B' H') (h : Dv F.K H (Pr F σ e b) d v) : Dv F.K H' (Pr F σ e b) d v := Dv.thru g.thru d h
theorem SI.noBm (I : SI F σ H e B) {a : Addr} {o : HO} (h : F.H0 a = some o) (n : ¬ F.b0 = some a) (t : ∀ ps, o ≠ .tbl ps) : ¬ Bm σ e a := fun ⟨i, h1, h2⟩ => by
  obtain ⟨_, b, e1, _, e3⟩ := I.bag i h1
  rw [h2] at e1; cases e1
  rcases e3 with e3 | e3
  · exact n e3
  · exact e3.no h t
theorem SI.nBmD (I : SI F σ H e B) {a : Addr} {xs : List Ent} (h : H a = some (DictO a xs)) : ¬ Bm σ e a := fun ⟨i, h1, h2⟩ => by
  obtain ⟨_, b, q1, q2, _⟩ := I.bag i h1
  rw [h2] at q1; cases q1
  rw [h] at q2
  exact DictO.nl (Option.some.inj q2)
theorem SI.nBmI (I : SI F σ H e B) {a C : Addr} {dx : Addr} {gs : List (Str × V)} (h : H a = some (.ins C dx gs)) : ¬ Bm σ e a := fun ⟨i, h1, h2⟩ => by
  obtain ⟨_, b, q1, q2, _⟩ := I.bag i h1
  rw [h2] at q1; cases q1
  rw [h] at q2
  cases q2
theorem SI.step (I : SI F σ H e B) (g : Go F σ H e B' H') : SI F σ H' e B' := by
  have th : Thru F.K H H' (Av F σ e) (Av F σ e) := g.ext.thru fun _ h => h.av
  refine ⟨I.len, ⟨fun a o h n t => g.ext.keep a o (I.ext.keep a o h n t) (I.noBm h n t) t, fun a xs h => g.ext.tups a xs (I.ext.tups a xs h), fun a o u h => g.ext.frzs a o u (I.ext.frzs a o u h), fun h => g.ext.tabs (I.ext.tabs h)⟩, g.ext.tabs I.tabs, fun a h => ?_, fun i d h => ?_, fun i ds h => ?_, fun i h => ?_, I.inj, I.one, I.b0, fun p hp => (I.kp p hp).thru th th, fun i kvs h => ?_, fun i a fs h => ?_⟩
  · obtain ⟨o, q, ht⟩ := I.dom' a h
    by_cases hb : Bm σ e a
    · obtain ⟨i, h1, h2⟩ := hb
      exact ⟨_, g.bag i a h1 h2, fun ps z => by cases z⟩
    · exact ⟨o, g.ext.keep a o q hb ht, ht⟩
  · obtain ⟨v, e1, h1⟩ := I.val i d h
    exact ⟨v, e1, Dv.thru th d h1⟩
  · obtain ⟨h0, a, xs, e1, e2, e3, e4, e5, e6⟩ := I.own i ds h
    exact ⟨h0, a, xs, e1, g.ext.keep a _ e2 (fun z => e6 (.inr z)) (fun ps z => by cases z), e3, DvAll.thru th ds e4, e5, e6⟩
  · obtain ⟨h0, b, e1, e2, e3⟩ := I.bag i h
    exact ⟨h0, b, e1, g.bag i b h e1, e3⟩
  · obtain ⟨h0, a, xs, e1, e2, e3, e4, e5, e6, e7⟩ := I.dic i kvs h
    exact ⟨h0, a, xs, e1, g.ext.keep a _ e2 (I.nBmD e2) (fun ps => DictO.nt), e3, e4.thru th, e5.thru th.t, e6, e7⟩
  · obtain ⟨h0, e1, e2⟩ := I.ins i a fs h
    exact ⟨h0, e1, e2.thru th fun C dx gs q => g.ext.keep a _ q (I.nBmI q) (fun ps z => by cases z)⟩
/-- what is not in the heap now was not there at the start -/
theorem SI.nw (I : SI F σ H e B) {a : Addr} (h : Nw H a) : Nw F.H0 a := fun o q => Classical.byContradiction fun t => by
  have t' : ∀ ps, o ≠ .tbl ps := fun ps z => t ⟨ps, z⟩
  by_cases hb : F.b0 = some a
  · obtain ⟨i, h1, h2⟩ := I.b0 a hb
    obtain ⟨_, b, e1, e2, _⟩ := I.bag i h1
    rw [h2] at e1; cases e1
    exact h.no e2 (fun ps z => by cases z)
  · exact h.no (I.ext.keep a o q hb t') t'
theorem SI.nAv (I : SI F σ H e B) {a : Addr} (h : Nw H a) : ¬ Av F σ e a := fun q => by
  obtain ⟨o, h1, h2⟩ := I.domA a q
  exact h.no h1 h2
end
end PD
set_option linter.all false
set_option maxRecDepth 100000
set_option maxHeartbeats 1000000
/-! Readings that say what the evaluator says. -/
namespace PD
open PySem PySem.Spec PyProof.Rows L2
/-- behind a piece of work: what it gives, in a heap that has come on; W: the errors that may leave -/
def After {α : Type} (F : Fx) (W : Nat → Hp → Prop) (σ : Slots) (H : Hp) (e : SEnv) (r : M α) (P : α → Bg → Hp → Prop) : Prop := match r with
  | .ok (a, B') => ∀ H', Go F σ H e B' H' → P a B' H'
  | .err c => ∀ H', Ext F.T (Bm σ e) H H' → W c H'
  | .stuck => False
mutual
/-- whether a value bears no list that is written -/
def sf (O : List Nat) : ME → Bool
  | .var i => !O.contains i
  | .tup es => sfs O es
  | .lst es => sfs O es
  | .bin _ a b => ss O a && ss O b
  | .ite _ a b => sf O a && sf O b
  | .ix a _ => ss O a
  | .sl a _ _ => ss O a
  | .call _ es => sfs O es
  | .callb _ _ es => sfs O es
  | .blt _ a => ss O a
  | .blt2 _ a b => ss O a && ss O b
  | .comp elt _ _ _ _ => sf O elt
  | .ltold e => sf O e
  | .lrep es _ => sfs O es
  | _ => true
/-- .. whether its items don't -/
def ss (O : List Nat) : ME → Bool
  | .var _ => true
  | .tup es => sfs O es
  | .lst es => sfs O es
  | .bin _ a b => ss O a && ss O b
  | .ite _ a b => sf O a && sf O b
  | .ix a _ => ss O a
  | .sl a _ _ => ss O a
  | .call _ es => sfs O es
  | .callb _ _ es => sfs O es
  | .blt _ a => ss O a
  | .blt2 _ a b => ss O a && ss O b
  | .comp elt _ _ _ _ => sf O elt
  | .ltold e => sf O e
  | .lrep es _ => sfs O es
  | _ => true
def sfs (O : List Nat) : MEs → Bool
  | .nil => true
  | .cons e r => sf O e && sfs O r
end
structure Rs (F : Fx) (m : ME) (σ : Slots) (e : SEnv) (H : Hp) (d : D) (v : V) : Prop where
  dv : Dv F.K H (Pr F σ e (sf F.O m)) d v
  dj : Dj F.K H (Pr F σ e (sf F.O m)) (Pr F σ e (ss F.O m)) d v
section
variable {F : Fx} {W : Nat → Hp → Prop} {σ : Slots} {H H1 H2 H' : Hp} {e : SEnv} {B B1 B2 B' : Bg} {α β : Type}
theorem After.bind {x : M α} {f : α → Bg → M β} {P : β → Bg → Hp → Prop} (h : After F W σ H e (x.bind f) P) : After F W σ H e x fun a B1 H1 => After F W σ H1 e (f a B1) P := by
  cases x with
  | stuck => exact h
  | err c => exact h
  | ok p =>
    obtain ⟨a, B1⟩ := p
    intro H1 g
    have h : After F W σ H e (f a B1) P := h
    show After F W σ H1 e (f a B1) P
    cases q : f a B1 with
    | stuck => rw [q] at h; exact h
    | err c => rw [q] at h; exact fun H' x => h H' (g.ext.trans x)
    | ok p2 =>
      obtain ⟨b, B2⟩ := p2
      rw [q] at h
      intro H2 g2
      exact h H2 (g.trans g2)
theorem After.imp {r : M α} {P P' : α → Bg → Hp → Prop} (h : After F W σ H e r P) (k : ∀ a B' H', Go F σ H e B' H' → P a B' H' → P' a B' H') : After F W σ H e r P' := by
  cases r with
  | stuck => exact h
  | err c => exact h
  | ok p => exact fun H' g => k _ _ H' g (h H' g)
theorem After.bools {x : M D} {f : Bool → Bg → M β} {P : β → Bg → Hp → Prop} (h : After F W σ H e (boolM x f) P) : After F W σ H e x fun d B1 H1 => ∃ b, d = .bool b ∧ After F W σ H1 e (f b B1) P :=
  (After.bind h).imp fun d B1 H1 _ q => by
    cases d with
    | bool b => exact ⟨b, rfl, q⟩
    | _ => exact False.elim q
theorem After.ofO {o : Option α} {P : α → Bg → Hp → Prop} (h : After F W σ H e (ofO B o) P) : ∃ a, o = some a ∧ ∀ H', Go F σ H e B H' → P a B H' := by
  cases o with
  | none => exact h.elim
  | some a => exact ⟨a, rfl, h⟩
theorem After.optB {o : Option Bool} {P : D → Bg → Hp → Prop} (h : After F W σ H e (optB B o) P) : ∃ b, o = some b ∧ ∀ H', Go F σ H e B H' → P (.bool b) B H' := by
  cases o with
  | none => exact h.elim
  | some a => exact ⟨a, rfl, h⟩
theorem Dv.dj2 {d : D} {v : V} {A A0 : Addr → Prop} (h : ∀ A, Dv F.K H A d v) : Dj F.K H A0 A d v := (h (fun x => A x ∨ A0 x)).dj (A := fun x => A x ∨ A0 x) (A0 := A0) (fun _ q => .inr q) |>.thru (.less fun _ q => q) (.less fun _ q => .inl q)
theorem Rs.mk' {m : ME} {d : D} {v : V} {b : Bool} (e1 : sf F.O m = b) (e2 : ss F.O m = b) (h : Dv F.K H (Pr F σ e b) d v) : Rs F m σ e H d v := ⟨by rw [e1]; exact h, by rw [e1, e2]; exact h.dj fun _ q => q⟩
theorem Rs.go {m : ME} {d : D} {v : V} (g : Go F σ H e B' H') (h : Rs F m σ e H d v) : Rs F m σ e H' d v := by
  exact ⟨g.dv h.dv, h.dj.thru g.thru g.thru⟩
theorem Rs.di {m : ME} {d : D} {v : V} (h : Rs F m σ e H d v) : Di F.K H (Pr F σ e (ss F.O m)) d v := h.dj.di
theorem Rs.ofV {m : ME} {d : D} {v : V} (h : ∀ A, Dv F.K H A d v) : Rs F m σ e H d v := ⟨h _, Dv.dj2 h⟩
theorem Rs.bl {m : ME} {b : Bool} : Rs F m σ e H (.bool b) (.bl b) := .ofV fun _ => .ofB b
theorem Rs.ar {m : ME} {d : D} {v : V} {b : Bool} (h : Rs F m σ e H d v) (hb : b = true → ss F.O m = true) : Di F.K H (Pr F σ e b) d v := h.di.less fun a q => q.le hb
/-- a def's own wishes: an expression's reading, a test's, an argument list's -/
def tD (F : Fx) (W : Nat → Hp → Prop) (m : ME) : TE := fun σ H Q => ∃ e B, SI F σ H e B ∧ After F W σ H e (ev F.Γ m e B) fun d _ H' => ∀ v, Rs F m σ e H' d v → Q v H'
def tT (F : Fx) (W : Nat → Hp → Prop) (m : ME) : TT := fun σ H Q => ∃ e B, SI F σ H e B ∧ After F W σ H e (ev F.Γ m e B) fun d _ H' => ∃ b, d = .bool b ∧ Q b H'
def tA (F : Fx) (W : Nat → Hp → Prop) (ms : MEs) : TA := fun σ H Q => ∃ e B, SI F σ H e B ∧ After F W σ H e (evs F.Γ ms e B) fun ds _ H' => ∀ vs, DvAll F.K H' (Pr F σ e (sfs F.O ms)) ds vs → Q vs H'
theorem un_of {m ma : ME} {g : SEnv → D → Bg → M D} {r : V → Hp → VK → Prop} {Q : VK} (h : tD F W m σ H Q) (he : ∀ e B, ev F.Γ m e B = (ev F.Γ ma e B).bind (g e))
    (k : ∀ e B1 H1 d v, SI F σ H1 e B1 → Rs F ma σ e H1 d v → (After F W σ H1 e (g e d B1) fun d' _ H' => ∀ v', Rs F m σ e H' d' v' → Q v' H') → r v H1 Q) : tD F W ma σ H fun v H1 => r v H1 Q := by
  obtain ⟨e, B, I, A⟩ := h
  rw [he] at A
  exact ⟨e, B, I, A.bind.imp fun d B1 H1 go hh v hv => k e B1 H1 d v (I.step go) hv hh⟩
theorem bin_of {m ma mb : ME} {g : D → D → Bg → M D} {r : V → V → Hp → VK → Prop} {Q : VK} (h : tD F W m σ H Q) (he : ∀ e B, ev F.Γ m e B = (ev F.Γ ma e B).bind fun x B1 => (ev F.Γ mb e B1).bind (g x))
    (k : ∀ e B2 H2 x y v w, SI F σ H2 e B2 → Rs F ma σ e H2 x v → Rs F mb σ e H2 y w → (After F W σ H2 e (g x y B2) fun d' _ H' => ∀ v', Rs F m σ e H' d' v' → Q v' H') → r v w H2 Q) :
    tD F W ma σ H fun v H1 => tD F W mb σ H1 fun w H2 => r v w H2 Q :=
  un_of (g := fun e x B1 => (ev F.Γ mb e B1).bind (g x)) (r := fun v H1 Q => tD F W mb σ H1 fun w H2 => r v w H2 Q) h he fun e B1 H1 x v I1 hv hh => ⟨e, B1, I1, hh.bind.imp fun y B2 H2 go h2 w hw => k e B2 H2 x y v w (I1.step go) (hv.go go) hw h2⟩
theorem out_of {m : ME} {d : D} {Q : VK} {b : Bool} (I : SI F σ H e B) (e1 : sf F.O m = b) (e2 : ss F.O m = b) (h : ∀ H', Go F σ H e B H' → ∀ v, Rs F m σ e H' d v → Q v H') : Out F.K (Pr F σ e b) H d Q :=
  fun v H' s hv => h H' (I.here.same s) v (.mk' e1 e2 hv)
theorem bl_of {m : ME} {c : Bool} {Q : VK} (I : SI F σ H e B) (h : ∀ H', Go F σ H e B H' → ∀ v, Rs F m σ e H' (.bool c) v → Q v H') : Q (.bl c) H := h H I.here _ .bl
end
theorem _root_.L2.PE.imp {X : Cx} {e : Expr} {t t' : TE} (h : PE X e t) (k : ∀ σ H Q, t' σ H Q → t σ H Q) : PE X e t' := ⟨fun pins s σ H Q I q => h.run pins s σ H Q I (k σ H Q q)⟩
theorem _root_.L2.PT.imp {X : Cx} {e : Expr} {t t' : TT} (h : PT X e t) (k : ∀ σ H Q, t' σ H Q → t σ H Q) : PT X e t' := ⟨fun pins s σ H Q I q => h.run pins s σ H Q I (k σ H Q q)⟩
theorem _root_.L2.PW.imp {X : Cx} {e : Expr} {t t' : TT} (h : PW X e t) (k : ∀ σ H Q, t' σ H Q → t σ H Q) : PW X e t' := ⟨fun wh pins s σ H Q I q => h.run wh pins s σ H Q I (k σ H Q q)⟩
theorem _root_.L2.PA.imp {X : Cx} {e : List Expr} {t t' : TA} (h : PA X e t) (k : ∀ σ H Q, t' σ H Q → t σ H Q) : PA X e t' := ⟨fun p pins s σ H Q I q => h.run p pins s σ H Q I (k σ H Q q)⟩
theorem _root_.L2.PS.imp {X : Cx} {e : Stmt} {t t' : TS} (h : PS X e t) (k : ∀ D σ H, t' D σ H → t D σ H) : PS X e t' := ⟨fun pins s σ H Q I q => h.run pins s σ H Q I (k Q σ H q)⟩
theorem _root_.L2.PSs.imp {X : Cx} {e : List Stmt} {t t' : TS} (h : PSs X e t) (k : ∀ D σ H, t' D σ H → t D σ H) : PSs X e t' := ⟨fun pins s σ H Q I q => h.run pins s σ H Q I (k Q σ H q)⟩
/-! ### a construct, its rule -/
section
variable {X : Cx} {F : Fx} {W : Nat → Hp → Prop} {pos : Pos} {a b c : Expr} {ma mb mc : ME}
theorem d_var {i : Nat} {x : Str} (hN : X.N[i]? = some x) (hv : Vis X.env.scope x) (hd : (x == ("__debug__" : Str)) = false) (hcd : (x == ("__classdict__" : Str)) = false) : PE X (.Name x pos) (tD F W (.var i)) := by
  refine (pe_var hN hv hd hcd).imp fun σ H Q ⟨e, B, I, A⟩ => ?_
  simp only [ev] at A
  obtain ⟨d, hd, h⟩ := A.ofO
  unfold getV at hd
  split at hd
  · rename_i d' he
    cases hd
    obtain ⟨v, e1, h1⟩ := I.val i d he
    refine ⟨v, e1, h H I.here v ⟨h1.less fun a q => q.av, (h1.dj fun a q => q.av).thru (.less fun a q => q) (.less fun a q => q.av)⟩⟩
  · rename_i ds he
    cases hd
    obtain ⟨hO, a, xs, e1, e2, z, t, h0, nb⟩ := I.own i ds he
    have es : sf F.O (.var i) = false := by simp [sf, hO]
    refine ⟨_, e1, h H I.here _ ⟨?_, ?_⟩⟩
    · rw [es]
      exact .mkL (SqL.of e2) nb z (t.less fun a q => q.av)
    · rw [es]
      exact ⟨a, xs, rfl, .inl ⟨e2, nb⟩, z, t⟩
  · cases hd
theorem d_con {d : D} {v : V} (h : PE X a (tC v)) (hd : ∀ H A, Dv F.K H A d v) : PE X a (tD F W (.con d)) :=
  h.imp fun σ H Q ⟨e, B, I, A⟩ => A H I.here v (.ofV fun A => hd _ A)
theorem d_gcon {g : Nat} {v : V} (h : PE X a (tC v)) (hd : ∀ H A, Dv F.K H A (F.Γ.gc g) v) : PE X a (tD F W (.gcon g)) :=
  h.imp fun σ H Q ⟨e, B, I, A⟩ => A H I.here v (.ofV fun A => hd _ A)
theorem d_nil : PA X [] (tA F W .nil) := pa_nil.imp fun σ H Q ⟨e, B, I, A⟩ => A H I.here [] .nil
theorem d_cons {es : List Expr} {ms : MEs} (ha : PE X a (tD F W ma)) (hr : PA X es (tA F W ms)) (hs : starEach (a :: es) X.env = (false, eval a X.env) :: starEach es X.env) : PA X (a :: es) (tA F W (.cons ma ms)) := by
  refine (pa_cons ha hr hs).imp fun σ H Q ⟨e, B, I, A⟩ => ?_
  simp only [evs] at A
  refine ⟨e, B, I, A.bind.imp fun d B1 H1 g1 h1 v hv => ?_⟩
  refine ⟨e, B1, I.step g1, h1.bind.imp fun ds B2 H2 g2 h2 vs hvs => ?_⟩
  refine h2 H2 ((I.step g1).step g2).here (v :: vs) (.cons ?_ (hvs.less fun a q => q.le ?_))
  · refine (hv.go g2).dv.less fun a q => q.le ?_
    simp only [sfs, Bool.and_eq_true]; exact fun h => h.1
  · simp only [sfs, Bool.and_eq_true]; exact fun h => h.2
theorem d_tup {es : List Expr} {ms : MEs} {k : Nat} (h : PA X es (tA F W ms)) (hl : es.length ≤ 1000) (hn : ∀ e B ds B', evs F.Γ ms e B = .ok (ds, B') → ds.length ≤ 1000) : PE X (.Tuple es k pos) (tD F W (.tup ms)) := by
  refine (pe_tup h).imp fun σ H Q ⟨e, B, I, A⟩ => ?_
  simp only [ev] at A
  refine ⟨e, B, I, ?_⟩
  have A' := A.bind
  cases q : evs F.Γ ms e B with
  | stuck => rw [q] at A'; exact A'
  | err c => rw [q] at A'; exact A'
  | ok p =>
    obtain ⟨ds, B1⟩ := p
    rw [q] at A'
    intro H1 g1 vs hvs
    have hl2 : vs.length ≤ sizeLine := by rw [hvs.length, sizeLine_eq]; have := hn e B ds B1 q; omega
    refine ⟨hl2, fun p hp => ?_⟩
    exact (out_of (m := .tup ms) (b := sfs F.O ms) (I.step g1) (by simp only [sf]) (by simp only [ss]) (A' H1 g1)).tup hp hl2 hvs
theorem d_lst {es : List Expr} {ms : MEs} (h : PA X es (tA F W ms)) (hn : ∀ e B ds B', evs F.Γ ms e B = .ok (ds, B') → ds.length ≤ 1000) : PE X (.List es pos) (tD F W (.lst ms)) := by
  refine (pe_lst h).imp fun σ H Q ⟨e, B, I, A⟩ => ?_
  simp only [ev] at A
  refine ⟨e, B, I, ?_⟩
  have A' := A.bind
  cases q : evs F.Γ ms e B with
  | stuck => rw [q] at A'; exact A'
  | err c => rw [q] at A'; exact A'
  | ok p =>
    obtain ⟨ds, B1⟩ := p
    rw [q] at A'
    intro H1 g1 vs hvs
    have hl2 : vs.length ≤ sizeLine := by rw [hvs.length, sizeLine_eq]; have := hn e B ds B1 q; omega
    refine ⟨hl2, fun p hp => ?_⟩
    exact (out_of (m := .lst ms) (b := sfs F.O ms) (I.step g1) (by simp only [sf]) (by simp only [ss]) (A' H1 g1)).lst ((I.step g1).domP _) hp hl2 hvs
theorem d_bin {o : BinO} (hK : X.K = F.K) (ha : PE X a (tD F W ma)) (hb : PE X b (tD F W mb)) : PE X (.BinOp a (bop o) b pos) (tD F W (.bin o ma mb)) := by
  refine (pe_op (op_binD o) ha hb).imp fun σ H Q h => ?_
  refine bin_of (g := fun x y B => ofO B (binD o x y)) (r := rD2 X.K (binD o)) h (fun e B => by simp only [ev]) fun e B2 H2 x y v w I hv hw hh => ?_
  obtain ⟨d, hd, h⟩ := hh.ofO
  have hbb : ∀ z : Bool, (ss F.O ma && ss F.O mb) = true → ss F.O ma = true ∧ ss F.O mb = true := fun _ h => by simpa using h
  refine ⟨Pr F σ e (ss F.O ma && ss F.O mb), x, y, d, I.domP _, ?_, ?_, hd, ?_⟩
  · rw [hK]; exact hv.ar fun h => (hbb true h).1
  · rw [hK]; exact hw.ar fun h => (hbb true h).2
  · rw [hK]; exact out_of I (by simp only [sf]) (by simp only [ss]) h
theorem d_cmp {o : CmpO} (hK : X.K = F.K) (hu : X.A.units + 65 < cLine) (ha : PE X a (tD F W ma)) (hb : PE X b (tD F W mb)) (hm : behindInMarks (cop o) b = false) : PE X (.Compare a [cop o] [b] pos) (tD F W (.cmp o ma mb)) := by
  refine (pe_cmpR (op_cmpD hu o) ha hb hm).imp fun σ H Q h => ?_
  refine bin_of (g := fun x y B => optB B (cmpD o x y)) (r := rB2 X.K (cmpD o)) h (fun e B => by simp only [ev]) fun e B2 H2 x y v w I hv hw hh => ?_
  obtain ⟨c, hc, h⟩ := hh.optB
  refine ⟨Pr F σ e (ss F.O ma && ss F.O mb), x, y, c, ?_, ?_, hc, bl_of I h⟩
  · rw [hK]; exact hv.ar fun h => by simp at h; exact h.1
  · rw [hK]; exact hw.ar fun h => by simp at h; exact h.2
end
end PD
set_option linter.all false
set_option maxRecDepth 100000
set_option maxHeartbeats 1000000
/-! Readings that say what the evaluator says: the rest of the expressions but comprehensions. -/
namespace PD
open PySem PySem.Spec PyProof.Rows L2
section
variable {X : Cx} {F : Fx} {W : Nat → Hp → Prop} {pos : Pos} {a b c : Expr} {ma mb mc m : ME} {σ : Slots} {H : Hp}
theorem tT_tD {Q : Bool → Hp → Prop} (h : tT F W m σ H Q) : tD F W m σ H fun x H' => ∃ k, x = .bl k ∧ Q k H' := by
  obtain ⟨e, B, I, A⟩ := h
  refine ⟨e, B, I, A.imp fun d B' H' g ⟨k, hk, q⟩ v hv => ⟨k, ?_, q⟩⟩
  subst hk
  exact hv.dv.b
theorem tD_tT {Q : VK} (h : tD F W m σ H Q) (hb : ∀ e B d B', ev F.Γ m e B = .ok (d, B') → ∃ k, d = .bool k) : tT F W m σ H fun k H' => Q (.bl k) H' := by
  obtain ⟨e, B, I, A⟩ := h
  refine ⟨e, B, I, ?_⟩
  cases q : ev F.Γ m e B with
  | stuck => rw [q] at A; exact A
  | err c => rw [q] at A; exact A
  | ok p =>
    obtain ⟨d, B'⟩ := p
    rw [q] at A
    obtain ⟨k, rfl⟩ := hb e B d B' q
    exact fun H' g => ⟨k, rfl, A H' g _ .bl⟩
theorem dT_val (h : PE X a (tD F W m)) (he : ∀ whole, isTrue a X.env whole = (do let v ← whole; standAt a.pos; holding [v] (truthy v))) : PT X a (tT F W m) :=
  (pt_val h he).imp fun σ H Q h => tT_tD h
theorem r_cmp {o : CmpO} {K : PySem.W.Frag} (hK : K = F.K) {Q : VK} (h : tD F W (.cmp o ma mb) σ H Q) : tOp (rB2 K (cmpD o)) (tD F W ma) (tD F W mb) σ H Q := by
  refine bin_of (g := fun x y B => optB B (cmpD o x y)) (r := rB2 K (cmpD o)) h (fun e B => by simp only [ev]) fun e B2 H2 x y v w I hv hw hh => ?_
  obtain ⟨c, hc, h⟩ := hh.optB
  refine ⟨Pr F σ e (ss F.O ma && ss F.O mb), x, y, c, ?_, ?_, hc, bl_of I h⟩
  · rw [hK]; exact hv.ar fun h => by simp at h; exact h.1
  · rw [hK]; exact hw.ar fun h => by simp at h; exact h.2
theorem dT_cmp {o : CmpO} (hK : X.K = F.K) (hu : X.A.units + 65 < cLine) (ha : PE X a (tD F W ma)) (hb : PE X b (tD F W mb)) (hm : behindInMarks (cop o) b = false) : PT X (.Compare a [cop o] [b] pos) (tT F W (.cmp o ma mb)) :=
  (pt_cmpR (op_cmpD hu o) ha hb hm).imp fun σ H Q h => r_cmp hK (tT_tD h)
theorem r_chain {o o' : CmpO} {K : PySem.W.Frag} (hK : K = F.K) {Q : VK} (h : tD F W (.chain o o' ma mb mc) σ H Q) : tChain (rB2 K (cmpD o)) (rB2 K (cmpD o')) (tD F W ma) (tD F W mb) (tD F W mc) σ H Q := by
  obtain ⟨e, B, I, A⟩ := h
  simp only [ev] at A
  refine ⟨e, B, I, A.bind.imp fun x B1 H1 g1 h1 v hv => ?_⟩
  refine ⟨e, B1, I.step g1, h1.bind.imp fun y B2 H2 g2 h2 w hw => ?_⟩
  have I2 := (I.step g1).step g2
  have mk : ∀ {v : V} {d : D} {mm : ME} {H : Hp}, Rs F mm σ e H d v → Di K H (Pr F σ e false) d v := fun hv => by rw [hK]; exact hv.ar fun h => by cases h
  cases q : cmpD o x y with
  | none => rw [q] at h2; exact h2.elim
  | some k =>
    rw [q] at h2
    refine ⟨Pr F σ e false, x, y, k, mk (hv.go g2), mk hw, q, k, rfl, ?_⟩
    cases k with
    | false => exact ite_ff (bl_of I2 h2)
    | true =>
      refine ite_tt ⟨e, B2, I2, h2.bind.imp fun z B3 H3 g3 h3 u hu => ?_⟩
      obtain ⟨c, hc, h3⟩ := h3.optB
      exact ⟨Pr F σ e false, y, z, c, mk (hw.go g3), mk hu, hc, bl_of (I2.step g3) h3⟩
theorem d_chain {o o' : CmpO} (hK : X.K = F.K) (hu : X.A.units + 65 < cLine) (ha : PE X a (tD F W ma)) (hb : PE X b (tD F W mb)) (hc : PE X c (tD F W mc)) (hm : lastMarks [cop o, cop o'] [b, c] = false) :
    PE X (.Compare a [cop o, cop o'] [b, c] pos) (tD F W (.chain o o' ma mb mc)) := (pe_chain (op_cmpD hu o) (op_cmpD hu o') ha hb hc hm).imp fun σ H Q h => r_chain hK h
theorem dT_chain {o o' : CmpO} (hK : X.K = F.K) (hu : X.A.units + 65 < cLine) (ha : PE X a (tD F W ma)) (hb : PE X b (tD F W mb)) (hc : PE X c (tD F W mc)) (hm : lastMarks [cop o, cop o'] [b, c] = false) :
    PT X (.Compare a [cop o, cop o'] [b, c] pos) (tT F W (.chain o o' ma mb mc)) := (pt_chain (op_cmpD hu o) (op_cmpD hu o') ha hb hc hm).imp fun σ H Q h => r_chain hK (tT_tD h)
/-! ### not, and, or -/
theorem d_nt (ha : PE X a (tD F W ma)) : PE X (.UnaryOp .Not a pos) (tD F W (.nt ma)) := by
  refine (pe_not ha).imp fun σ H Q ⟨e, B, I, A⟩ => ?_
  simp only [ev] at A
  refine ⟨e, B, I, A.bools.imp fun d B1 H1 g ⟨k, hk, h⟩ v hv => ?_⟩
  subst hk
  exact ⟨k, hv.dv.b, bl_of (I.step g) h⟩
theorem dT_nt (ha : PT X a (tT F W ma)) : PT X (.UnaryOp .Not a pos) (tT F W (.nt ma)) := by
  refine (pt_not ha).imp fun σ H Q ⟨e, B, I, A⟩ => ?_
  simp only [ev] at A
  refine ⟨e, B, I, A.bools.imp fun d B1 H1 g ⟨k, hk, h⟩ => ⟨k, hk, ?_⟩⟩
  obtain ⟨k', e', q⟩ := h H1 (I.step g).here
  cases e'
  exact q
/-- a tail of and, or -/
def boV : BoolOp → ME → MEs → ME
  | _, m, .nil => m
  | .And, m, .cons m' r => .andv m (boV .And m' r)
  | .Or, m, .cons m' r => .orv m (boV .Or m' r)
theorem d_bo1 {op : BoolOp} (ha : PE X a (tD F W ma)) : PE X (.BoolOp op [a] pos) (tD F W ma) := pe_one ha
theorem d_and {r : List Expr} (ha : PE X a (tD F W ma)) (hb : PE X (.BoolOp .And (b :: r) pos) (tD F W mb)) : PE X (.BoolOp .And (a :: b :: r) pos) (tD F W (.andv ma mb)) := by
  refine (pe_and ha hb).imp fun σ H Q ⟨e, B, I, A⟩ => ?_
  simp only [ev] at A
  refine ⟨e, B, I, A.bools.imp fun d B1 H1 g ⟨k, hk, h⟩ v hv => ?_⟩
  subst hk
  refine ⟨k, hv.dv.b, ?_⟩
  cases k with
  | false => exact ite_ff (bl_of (I.step g) h)
  | true =>
    refine ite_tt ⟨e, B1, I.step g, (After.bools h).imp fun d2 B2 H2 g2 ⟨k2, hk2, h2⟩ w hw => ?_⟩
    subst hk2
    have hb := hw.dv.b
    subst hb
    exact h2 H2 ((I.step g).step g2).here _ .bl
theorem d_or {r : List Expr} (ha : PE X a (tD F W ma)) (hb : PE X (.BoolOp .Or (b :: r) pos) (tD F W mb)) : PE X (.BoolOp .Or (a :: b :: r) pos) (tD F W (.orv ma mb)) := by
  refine (pe_or ha hb).imp fun σ H Q ⟨e, B, I, A⟩ => ?_
  simp only [ev] at A
  refine ⟨e, B, I, A.bools.imp fun d B1 H1 g ⟨k, hk, h⟩ v hv => ?_⟩
  subst hk
  refine ⟨k, hv.dv.b, ?_⟩
  cases k with
  | true => exact ite_tt (bl_of (I.step g) h)
  | false =>
    refine ite_ff ⟨e, B1, I.step g, (After.bools h).imp fun d2 B2 H2 g2 ⟨k2, hk2, h2⟩ w hw => ?_⟩
    subst hk2
    have hb := hw.dv.b
    subst hb
    exact h2 H2 ((I.step g).step g2).here _ .bl
end
end PD
set_option linter.all false
set_option maxRecDepth 100000
set_option maxHeartbeats 1000000
/-! Readings: tests, subscripts, slices, calls, built-ins, the bag. -/
namespace PD
open PySem PySem.Spec PyProof.Rows L2
/-! ### forms of text -/
def plainE : Expr → Bool
  | .Starred .. => false
  | _ => true
theorem star_plain {e : Expr} {es : List Expr} {env : Env} (h : plainE e = true) : starEach (e :: es) env = (false, eval e env) :: starEach es env := by
  cases e <;> first | rfl | cases h
theorem star_any {pos : Pos} {env : Env} : ∀ {es : List Expr}, es.all plainE = true → (backTo pos (starEach es env)).any (·.1) = false
  | [], _ => rfl
  | e :: es, h => by
    obtain ⟨h1, h2⟩ := Bool.and_eq_true_iff.mp (List.all_cons ▸ h)
    rw [star_plain h1]
    show (false || (backTo pos (starEach es env)).any (·.1)) = false
    rw [star_any h2]
    rfl
def isSlice : Expr → Bool
  | .Slice .. => true
  | _ => false
theorem plainIx {b : Expr} (h : isSlice b = false) : PlainIx b := fun o i => by
  cases b <;> first | rfl | cases h
def valTest : Expr → Bool
  | .UnaryOp .Not _ _ => false
  | .BoolOp .. => false
  | .IfExp .. => false
  | .Compare .. => false
  | _ => true
theorem isTrue_val {e : Expr} {env : Env} (h : valTest e = true) (whole : Sem Value) : isTrue e env whole = (do let v ← whole; standAt e.pos; holding [v] (truthy v)) := by
  cases e with
  | UnaryOp op x p => cases op <;> first | rfl | cases h
  | _ => first | rfl | cases h
section
variable {X : Cx} {F : Fx} {W : Nat → Hp → Prop} {pos p p2 : Pos} {a b c : Expr} {ma mb mc m : ME} {σ : Slots} {H : Hp}
/-! ### tests -/
theorem tT_and {Q : Bool → Hp → Prop} (h : tT F W (.andv ma mb) σ H Q) : tAnd (tT F W ma) (tT F W mb) σ H Q := by
  obtain ⟨e, B, I, A⟩ := h
  simp only [ev] at A
  refine ⟨e, B, I, A.bools.imp fun d B1 H1 g ⟨k, hk, h⟩ => ⟨k, hk, ?_⟩⟩
  cases k with
  | false =>
    obtain ⟨k', e', q⟩ := h H1 (I.step g).here
    cases e'
    exact ite_ff q
  | true =>
    refine ite_tt ⟨e, B1, I.step g, (After.bools h).imp fun d2 B2 H2 g2 ⟨k2, hk2, h2⟩ => ⟨k2, hk2, ?_⟩⟩
    obtain ⟨k', e', q⟩ := h2 H2 ((I.step g).step g2).here
    cases e'
    exact q
theorem tT_or {Q : Bool → Hp → Prop} (h : tT F W (.orv ma mb) σ H Q) : tOr (tT F W ma) (tT F W mb) σ H Q := by
  obtain ⟨e, B, I, A⟩ := h
  simp only [ev] at A
  refine ⟨e, B, I, A.bools.imp fun d B1 H1 g ⟨k, hk, h⟩ => ⟨k, hk, ?_⟩⟩
  cases k with
  | true =>
    obtain ⟨k', e', q⟩ := h H1 (I.step g).here
    cases e'
    exact ite_tt q
  | false =>
    refine ite_ff ⟨e, B1, I.step g, (After.bools h).imp fun d2 B2 H2 g2 ⟨k2, hk2, h2⟩ => ⟨k2, hk2, ?_⟩⟩
    obtain ⟨k', e', q⟩ := h2 H2 ((I.step g).step g2).here
    cases e'
    exact q
theorem dW_and1 (ha : PT X a (tT F W ma)) : PW X (.BoolOp .And [a] pos) (tT F W ma) := pw_and1 ha
theorem dW_or1 (ha : PT X a (tT F W ma)) : PW X (.BoolOp .Or [a] pos) (tT F W ma) := pw_or1 ha
theorem dW_and {r : List Expr} (ha : PT X a (tT F W ma)) (hb : PW X (.BoolOp .And (b :: r) pos) (tT F W mb)) : PW X (.BoolOp .And (a :: b :: r) pos) (tT F W (.andv ma mb)) := (pw_and ha hb).imp fun _ _ _ h => tT_and h
theorem dW_or {r : List Expr} (ha : PT X a (tT F W ma)) (hb : PW X (.BoolOp .Or (b :: r) pos) (tT F W mb)) : PW X (.BoolOp .Or (a :: b :: r) pos) (tT F W (.orv ma mb)) := (pw_or ha hb).imp fun _ _ _ h => tT_or h
/-! ### a if t else b -/
theorem d_ite (hc : PT X c (tT F W mc)) (ha : PE X a (tD F W ma)) (hb : PE X b (tD F W mb)) : PE X (.IfExp c a b pos) (tD F W (.ite mc ma mb)) := by
  refine (pe_ifExp hc ha hb).imp fun σ H Q ⟨e, B, I, A⟩ => ?_
  simp only [ev] at A
  refine ⟨e, B, I, A.bools.imp fun d B1 H1 g ⟨k, hk, h⟩ => ⟨k, hk, ?_⟩⟩
  have h1 : sf F.O (.ite mc ma mb) = (sf F.O ma && sf F.O mb) := by simp only [sf]
  have h2 : ss F.O (.ite mc ma mb) = (sf F.O ma && sf F.O mb) := by simp only [ss]
  cases k with
  | true => exact ite_tt ⟨e, B1, I.step g, After.imp h fun d2 B2 H2 g2 q v hv => q v (.mk' h1 h2 (hv.dv.less fun x z => z.le (by simp only [Bool.and_eq_true]; exact fun z => z.1)))⟩
  | false => exact ite_ff ⟨e, B1, I.step g, After.imp h fun d2 B2 H2 g2 q v hv => q v (.mk' h1 h2 (hv.dv.less fun x z => z.le (by simp only [Bool.and_eq_true]; exact fun z => z.2)))⟩
/-! ### a[b], a[b:c] -/
theorem d_ix (hK : X.K = F.K) (ha : PE X a (tD F W ma)) (hb : PE X b (tD F W mb)) (hs : isSlice b = false) : PE X (.Subscript a b pos) (tD F W (.ix ma mb)) := by
  refine (pe_ix ix_D ha hb (plainIx hs)).imp fun σ H Q h => ?_
  refine bin_of (g := fun x y B => ofO B (itemD x y)) (r := rD2 X.K itemD) h (fun e B => by simp only [ev]) fun e B2 H2 x y v w I hv hw hh => ?_
  obtain ⟨d, hd, h⟩ := hh.ofO
  have hyb : Di F.K H2 (Pr F σ e (ss F.O ma)) y w := by
    cases y with
    | int i => have e := hw.di.i; subst e; exact (Dv.ofI i : Dv F.K H2 (Pr F σ e (ss F.O ma)) (.int i) (.int i))
    | _ => cases x <;> simp only [itemD] at hd <;> cases hd
  refine ⟨Pr F σ e (ss F.O ma), x, y, d, I.domP _, ?_, ?_, hd, ?_⟩
  · rw [hK]; exact hv.di
  · rw [hK]; exact hyb
  · rw [hK]; exact out_of I (by simp only [sf]) (by simp only [ss]) h
def tOp' (F : Fx) (W : Nat → Hp → Prop) (mo : MO) : TO := fun σ H Q => ∃ e B, SI F σ H e B ∧ After F W σ H e (evo F.Γ mo e B) fun o _ H' => Q o H'
structure DO (X : Cx) (F : Fx) (W : Nat → Hp → Prop) (e : Option Expr) (mo : MO) : Prop where
  po : PO X e (tOp' F W mo)
theorem _root_.L2.PO.imp {X : Cx} {e : Option Expr} {t t' : TO} (h : PO X e t) (k : ∀ σ H Q, t' σ H Q → t σ H Q) : PO X e t' := ⟨fun pins s σ H Q I q => h.run pins s σ H Q I (k σ H Q q)⟩
theorem do_none : PO X none (tOp' F W .no) := po_none.imp fun σ H Q ⟨e, B, I, A⟩ => by
  simp only [evo] at A
  exact A H I.here
theorem do_some (ha : PE X a (tD F W ma)) : PO X (some a) (tOp' F W (.so ma)) := (po_some ha).imp fun σ H Q ⟨e, B, I, A⟩ => by
  simp only [evo] at A
  refine ⟨e, B, I, A.bind.imp fun d B1 H1 g h v hv => ?_⟩
  cases d with
  | int i => exact ⟨i, hv.di.i, h H1 (I.step g).here⟩
  | _ => exact False.elim h
theorem d_sl {lo hi : Option Expr} {ml mh : MO} (hK : X.K = F.K) (ha : PE X a (tD F W ma)) (hl : PO X lo (tOp' F W ml)) (hh : PO X hi (tOp' F W mh)) : PE X (.Subscript a (.Slice lo hi none p2) pos) (tD F W (.sl ma ml mh)) := by
  refine (pe_slice sl_D ha hl hh).imp fun σ H Q ⟨e, B, I, A⟩ => ?_
  simp only [ev] at A
  refine ⟨e, B, I, A.bind.imp fun x B1 H1 g1 h1 v hv => ?_⟩
  refine ⟨e, B1, I.step g1, h1.bind.imp fun l B2 H2 g2 h2 => ?_⟩
  refine ⟨e, B2, (I.step g1).step g2, h2.bind.imp fun u B3 H3 g3 h3 => ?_⟩
  obtain ⟨d, hd, h⟩ := h3.ofO
  refine ⟨Pr F σ e (ss F.O ma), x, d, (((I.step g1).step g2).step g3).domP _, ?_, hd, ?_⟩
  · rw [hK]; exact ((hv.go g2).go g3).di
  · rw [hK]; exact out_of (((I.step g1).step g2).step g3) (by simp only [sf]) (by simp only [ss]) h
/-! ### built-ins -/
theorem d_un {e : SEnv} {o : BltO} {v : V} {x : D} {B : Bg} {Q : VK} (hK : X.K = F.K) (I : SI F σ H e B) (hv : Rs F ma σ e H x v) (hh : After F W σ H e (ofO B (bltD o x)) fun d' _ H' => ∀ v', Rs F (.blt o ma) σ e H' d' v' → Q v' H') : rD1 X.K (bltD o) v H Q := by
  obtain ⟨d, hd, h⟩ := hh.ofO
  refine ⟨Pr F σ e (ss F.O ma), x, d, I.domP _, ?_, hd, ?_⟩
  · rw [hK]; exact hv.di
  · rw [hK]; exact out_of I (by simp only [sf]) (by simp only [ss]) h
theorem d_neg (hK : X.K = F.K) (ha : PE X a (tD F W ma)) : PE X (.UnaryOp .USub a pos) (tD F W (.blt .neg ma)) :=
  (pe_un un_negD ha).imp fun σ H Q h => un_of (g := fun _ x B => ofO B (bltD .neg x)) (r := rD1 X.K (bltD .neg)) h (fun e B => by simp only [ev]) fun e B1 H1 x v I hv hh => d_un hK I hv hh
theorem pa_1 (ha : PE X a (tD F W ma)) (h : plainE a = true) : PA X [a] (tCons (tD F W ma) tNil) := pa_cons ha pa_nil (star_plain h)
theorem d_bltB {id : String} {x : Str} {o : BltO} (hc : CallR X (.builtin id) (rC1 X.K (bltD o))) (hK : X.K = F.K) (hg : Gl X x) (hm : X.mg x = none) (hv : bootBuiltins x = some (.builtin id)) (ha : PE X a (tD F W ma)) (hp : plainE a = true) (hn : x ≠ "__name__") (hdb : (x == ("__debug__" : Str)) = false) :
    PE X (.Call (.Name x p) [a] [] pos) (tD F W (.blt o ma)) :=
  (pe_callB hc hg hm hv (pa_1 ha hp) hn hdb (star_plain hp)).imp fun σ H Q h => un_of (g := fun _ x B => ofO B (bltD o x)) (r := fun v H Q => rC1 X.K (bltD o) [v] H Q) h (fun e B => by simp only [ev]) fun e B1 H1 x v I hv hh => ⟨v, rfl, d_un hK I hv hh⟩
theorem d_bltT {id : String} {x : Str} {o : BltO} (hc : CallR X (.type id) (rC1 X.K (bltD o))) (hK : X.K = F.K) (hg : Gl X x) (hm : X.mg x = none) (hv : bootBuiltins x = some (.type id)) (ha : PE X a (tD F W ma)) (hp : plainE a = true) (hn : x ≠ "__name__") (hdb : (x == ("__debug__" : Str)) = false) :
    PE X (.Call (.Name x p) [a] [] pos) (tD F W (.blt o ma)) :=
  (pe_callTy hc hg hm hv (pa_1 ha hp) hn hdb (star_plain hp)).imp fun σ H Q h => un_of (g := fun _ x B => ofO B (bltD o x)) (r := fun v H Q => rC1 X.K (bltD o) [v] H Q) h (fun e B => by simp only [ev]) fun e B1 H1 x v I hv hh => ⟨v, rfl, d_un hK I hv hh⟩
theorem d_blt2 {id : String} {x : Str} {o : Blt2} (hc : CallR X (.builtin id) (fun vs H Q => ∃ x y, vs = [x, y] ∧ rD2 X.K (blt2D o) x y H Q)) (hK : X.K = F.K) (hg : Gl X x) (hm : X.mg x = none) (hv : bootBuiltins x = some (.builtin id)) (ha : PE X a (tD F W ma)) (hb : PE X b (tD F W mb)) (hp : plainE a = true) (hp2 : plainE b = true) (hn : x ≠ "__name__") (hdb : (x == ("__debug__" : Str)) = false) :
    PE X (.Call (.Name x p) [a, b] [] pos) (tD F W (.blt2 o ma mb)) := by
  refine (pe_callB hc hg hm hv (pa_cons ha (pa_cons hb pa_nil (star_plain hp2)) (star_plain hp)) hn hdb (star_plain hp) (star_any (by simp [hp2]))).imp fun σ H Q h => ?_
  refine bin_of (g := fun x y B => ofO B (blt2D o x y)) (r := fun v w H Q => ∃ x y, [v, w] = [x, y] ∧ rD2 X.K (blt2D o) x y H Q) h (fun e B => by simp only [ev]) fun e B2 H2 x y v w I hv hw hh => ?_
  obtain ⟨d, hd, h⟩ := hh.ofO
  refine ⟨v, w, rfl, Pr F σ e (ss F.O ma && ss F.O mb), x, y, d, I.domP _, ?_, ?_, hd, ?_⟩
  · rw [hK]; exact hv.ar fun h => by simp at h; exact h.1
  · rw [hK]; exact hw.ar fun h => by simp at h; exact h.2
  · rw [hK]; exact out_of I (by simp only [sf]) (by simp only [ss]) h
theorem d_isi {x y : Str} {t : Ty} (hK : X.K = F.K) (hg : Gl X x) (hm : X.mg x = none) (hv : bootBuiltins x = some (.builtin "isinstance")) (hg2 : Gl X y) (hm2 : X.mg y = none) (hv2 : bootBuiltins y = some (.type (tyN t))) (ha : PE X a (tD F W ma)) (hp : plainE a = true) (hn : x ≠ "__name__") (hdb : (x == ("__debug__" : Str)) = false) (hn2 : y ≠ "__name__") (hdb2 : (y == ("__debug__" : Str)) = false) :
    PE X (.Call (.Name x p) [a, .Name y p2] [] pos) (tD F W (.isi ma t)) := by
  refine (pe_callB (call_isiD t) hg hm hv (pa_cons ha (pa_cons (pe_bltn (v := .ty (tyN t)) hg2 hm2 hv2 rfl hn2 hdb2) pa_nil rfl) (star_plain hp)) hn hdb (star_plain hp) (star_any rfl)).imp fun σ H Q h => ?_
  refine un_of (g := fun _ x B => optB B (isiD t x)) (r := fun v H Q => ∃ x A dx b, [v, .ty (tyN t)] = [x, .ty (tyN t)] ∧ Di X.K H A dx x ∧ isiD t dx = some b ∧ Q (.bl b) H) h (fun e B => by simp only [ev]) fun e B1 H1 x v I hv hh => ?_
  obtain ⟨b, hb, h⟩ := hh.optB
  refine ⟨v, Pr F σ e (ss F.O ma), x, b, rfl, ?_, hb, bl_of I h⟩
  rw [hK]; exact hv.di
end
end PD
set_option linter.all false
set_option maxRecDepth 100000
set_option maxHeartbeats 1000000
/-! Promises of defs; calls; new lists; the bag. -/
namespace PD
open PySem PySem.Spec PyProof.Rows L2
def none_ : Addr → Prop := fun _ => False
/-- a new list -/
def Frs (K : PySem.W.Frag) (A : Addr → Prop) (H H' : Hp) (d : D) (v : V) : Prop := ∃ ds a xs, d = .list ds ∧ v = .ref a ∧ H' a = some (.lst xs) ∧ xs.length ≤ sizeLine ∧ Nw H a ∧ DvAll K H' (fun x => A x ∨ x = a) ds xs
/-- the promise of a def that the evaluator knows as f -/
def spP (T : List (Addr × Str)) (cls : Nat → Addr) (call : Nat → List D → R D) (new : Bool) (K : PySem.W.Frag) (f np : Nat) : Sp := fun vs H Q E => vs.length = np ∧ ∃ A0 ds, Dom A0 H ∧ LamX.Tabs T H ∧ DvAll K H A0 ds vs ∧
  match call f ds with
  | .stuck => False
  | .ok d => ∀ v H', Ext T none_ H H' → Dv K H' A0 d v → (new = true → (∃ ds, d = .list ds) → Frs K A0 H H' d v) → Q v H'
  | .err c => ∀ H', Ext T none_ H H' → E (.ref (cls c)) none H'
/-- .. of a def whose first argument is the bag -/
def spB (T : List (Addr × Str)) (cls : Nat → Addr) (call : Nat → List D → Bg → M D) (K : PySem.W.Frag) (f np : Nat) : Sp := fun vs H Q E => vs.length = np ∧ ∃ A0 ds b B us, vs = .ref b :: us ∧ Dom A0 H ∧ LamX.Tabs T H ∧ A0 b ∧ H b = some (.lst (B.map V.int)) ∧ DvAll K H A0 ds us ∧
  match call f ds B with
  | .stuck => False
  | .ok (d, B') => ∀ v H', Ext T (fun a => some b = some a) H H' → H' b = some (.lst (B'.map V.int)) → Dv K H' A0 d v → Q v H'
  | .err c => ∀ H', Ext T (fun a => some b = some a) H H' → E (.ref (cls c)) none H'
/-- the errors that are taken -/
def EW (F : Fx) (W : Nat → Hp → Prop) : XK := fun v p H' => ∃ c, v = .ref (F.cls c) ∧ p = none ∧ W c H'
def Tk (X : Cx) (F : Fx) (W : Nat → Hp → Prop) : Prop := ∃ W' : WX, L2N.Takes X W' ∧ ∀ c σ H', W c H' → W' (.ref (F.cls c)) none σ H'
theorem takesN {X : Cx} : L2N.Takes X (fun _ _ _ _ => False) := fun _ _ x => by
  obtain ⟨_, _, _, _, _, _, _, _, _, _, _, _, _, _, _, _, z⟩ := x
  exact z.elim
theorem Tk.passes {X : Cx} {F : Fx} {W : Nat → Hp → Prop} (t : Tk X F W) : Passes (L2N.CX X.prog X.w) X (EW F W) := by
  obtain ⟨W', t, h⟩ := t
  exact L2N.passes_call t fun cls d σ H ⟨c, e1, e2, e3⟩ => by subst e1 e2; exact h c σ H e3
/-- a list is written -/
theorem Ext.lst {T : List (Addr × Str)} {M : Addr → Prop} {H : Hp} {b : Addr} {xs : List V} {o : HO} (h : H b = some (.lst xs)) (m : M b) : Ext T M H (upd H b o) := by
  have k : ∀ a u, H a = some u → u ≠ .lst xs → upd H b o a = some u := fun a u e n => by
    have ne : a ≠ b := fun z => by rw [z, h] at e; cases e; exact n rfl
    rw [upd_ne ne]; exact e
  refine ⟨fun a u e n t => ?_, fun a xs e => k a _ e (fun z => by cases z), fun a u w e => k a _ e (fun z => by cases z), fun t p hp => ?_⟩
  · have ne : a ≠ b := fun z => n (by rw [z]; exact m)
    rw [upd_ne ne]; exact e
  · obtain ⟨ps, h1, h2, h3⟩ := t p hp
    refine ⟨ps, k _ _ h1 (fun z => by cases z), h2, fun pos cv hc => ?_⟩
    obtain ⟨c, e1, e2⟩ := h3 pos cv hc
    exact ⟨c, e1, k _ _ e2 (fun z => by cases z)⟩
def MEs.len : MEs → Nat
  | .nil => 0
  | .cons _ r => r.len + 1
theorem M.bind_ok {α β : Type} {x : M α} {f : α → Bg → M β} {r : β × Bg} (h : x.bind f = .ok r) : ∃ a B, x = .ok (a, B) ∧ f a B = .ok r := by
  cases x with
  | ok p => exact ⟨p.1, p.2, rfl, h⟩
  | stuck => cases h
  | err c => cases h
theorem evs_len {Γ : Tab} : ∀ {ms : MEs} {e : SEnv} {B : Bg} {ds : List D} {B' : Bg}, evs Γ ms e B = .ok (ds, B') → ds.length = ms.len
  | .nil, e, B, ds, B', h => by simp only [evs] at h; cases h; rfl
  | .cons m r, e, B, ds, B', h => by
    simp only [evs] at h
    obtain ⟨a, B1, _, h⟩ := M.bind_ok h
    obtain ⟨as, B2, h2, h⟩ := M.bind_ok h
    cases h
    show as.length + 1 = r.len + 1
    rw [evs_len h2]
section
variable {X : Cx} {F : Fx} {W : Nat → Hp → Prop} {pos p p2 : Pos} {a b c : Expr} {ma mb mc m : ME} {ms : MEs} {es : List Expr} {σ : Slots} {H H1 H' : Hp} {e : SEnv} {B B1 B' : Bg}
theorem After.val {α β : Type} {x : M α} {P : α → Bg → Hp → Prop} (h : After F W σ H e x P) (k : ∀ a B', x = .ok (a, B') → After F W σ H e x P → After F W σ H e (.ok (a, B')) P) : After F W σ H e x P := h
theorem After.with {α : Type} {x : M α} {P P' : α → Bg → Hp → Prop} (h : After F W σ H e x P) (k : ∀ a B' H', x = .ok (a, B') → Go F σ H e B' H' → P a B' H' → P' a B' H') : After F W σ H e x P' := by
  cases x with
  | stuck => exact h
  | err c => exact h
  | ok p => exact fun H' g => k _ _ H' rfl g (h H' g)
theorem Go.nw (I : SI F σ H e B) (g : Go F σ H e B' H') {a : Addr} (h : Nw H' a) : Nw H a := fun o q => Classical.byContradiction fun t => by
  have t' : ∀ ps, o ≠ .tbl ps := fun ps z => t ⟨ps, z⟩
  by_cases hb : Bm σ e a
  · obtain ⟨i, h1, h2⟩ := hb
    exact h.no (g.bag i a h1 h2) (fun ps z => by cases z)
  · exact h.no (g.ext.keep a o q hb t') t'
def tF (F : Fx) (W : Nat → Hp → Prop) (m : ME) : TE := fun σ H Q => ∃ e B, SI F σ H e B ∧ After F W σ H e (ev F.Γ m e B) fun d _ H' => ∀ v, Rs F m σ e H' d v → ((∃ ds, d = .list ds) → Frs F.K (Pr F σ e (ss F.O m)) H H' d v) → Q v H'
theorem d_new (h : PE X a (tF F W m)) : PE X a (tD F W m) := h.imp fun σ H Q ⟨e, B, I, A⟩ => ⟨e, B, I, A.imp fun d B' H' g q v hv _ => q v hv⟩
/-- a def's call gives what the evaluator says -/
theorem call_go {f : Nat} {new : Bool} {np : Nat} {Q : VK} {ds : List D} {vs : List V} {fl : Bool} (hK : X.K = F.K) (I : SI F σ H e B) (hl : vs.length = np) (hvs : DvAll F.K H (Pr F σ e fl) ds vs)
    (hh : After F W σ H e ((F.Γ.call f ds).bind fun d => .ok (d, B)) fun d _ H' => ∀ v, Dv F.K H' (Pr F σ e fl) d v → (new = true → (∃ ds, d = .list ds) → Frs F.K (Pr F σ e fl) H H' d v) → Q v H') : spP F.T F.cls F.Γ.call new X.K f np vs H Q (EW F W) := by
  refine ⟨hl, Pr F σ e fl, ds, I.domP _, I.tabs, by rw [hK]; exact hvs, ?_⟩
  cases q : F.Γ.call f ds with
  | stuck => rw [q] at hh; exact hh
  | err c =>
    rw [q] at hh
    exact fun H' x => ⟨c, rfl, rfl, hh H' (x.mono fun _ z => z.elim)⟩
  | ok d =>
    rw [q] at hh
    intro v H' x hv fr
    rw [hK] at hv fr
    refine hh H' ⟨x.mono fun _ z => z.elim, fun i b h1 h2 => ?_⟩ v hv fr
    obtain ⟨_, b', e1, e2, _⟩ := I.bag i h1
    rw [h2] at e1; cases e1
    exact x.keep b _ e2 (fun z => z) (fun ps z => by cases z)
theorem pa_len (ha : PA X es (tA F W ms)) : PA X es (fun σ H Q => ∃ e B, SI F σ H e B ∧ After F W σ H e (evs F.Γ ms e B) fun ds _ H' => ∀ vs, vs.length = ms.len → DvAll F.K H' (Pr F σ e (sfs F.O ms)) ds vs → Q vs H') :=
  ha.imp fun σ H Q ⟨e, B, I, A⟩ => ⟨e, B, I, A.with fun ds B' H' q g h vs hvs => h vs (by rw [hvs.length, evs_len q]) hvs⟩
theorem d_call {k f np : Nat} {g : Addr} {fd : FuncData} {ps : List Str} {x : Str} {new : Bool} (FO : FnOk X.prog X.w X.K X.mg X.base (L2N.CX X.prog X.w) k g fd ps (spP F.T F.cls F.Γ.call new X.K f np)) (hr : Room k X.A) (hg : Gl X x) (hm : X.mg x = some (.ref g)) (hk : PySem.W.keepIn X.K (.ref g) = true) (hb : Binds X.K fd ps [])
    (tk : Tk X F W) (hK : X.K = F.K) (hl : ms.len = np) (ha : PA X (a :: es) (tA F W ms)) (hdb : (x == ("__debug__" : Str)) = false) (hp : plainE a = true) (hps : es.all plainE = true) :
    PE X (.Call (.Name x p) (a :: es) [] pos) (tD F W (.call f ms)) := by
  refine (pe_call FO hr hg hm hk hb .nil tk.passes (pa_len ha) hdb (star_plain hp) (star_any hps)).imp fun σ H Q ⟨e, B, I, A⟩ => ?_
  simp only [ev] at A
  refine ⟨e, B, I, A.bind.imp fun ds B1 H1 g h vs hn hvs => ?_⟩
  show spP _ _ _ _ _ _ _ (vs ++ []) _ _ _
  rw [List.append_nil]
  exact call_go hK (I.step g) (hn.trans hl) hvs (After.imp h fun d B2 H2 g2 q v hv _ => q v (.mk' (by simp only [sf]) (by simp only [ss]) hv))
theorem d_callF {k f np : Nat} {g : Addr} {fd : FuncData} {ps : List Str} {x : Str} (FO : FnOk X.prog X.w X.K X.mg X.base (L2N.CX X.prog X.w) k g fd ps (spP F.T F.cls F.Γ.call true X.K f np)) (hr : Room k X.A) (hg : Gl X x) (hm : X.mg x = some (.ref g)) (hk : PySem.W.keepIn X.K (.ref g) = true) (hb : Binds X.K fd ps [])
    (tk : Tk X F W) (hK : X.K = F.K) (hl : ms.len = np) (ha : PA X (a :: es) (tA F W ms)) (hdb : (x == ("__debug__" : Str)) = false) (hp : plainE a = true) (hps : es.all plainE = true) :
    PE X (.Call (.Name x p) (a :: es) [] pos) (tF F W (.call f ms)) := by
  refine (pe_call FO hr hg hm hk hb .nil tk.passes (pa_len ha) hdb (star_plain hp) (star_any hps)).imp fun σ H Q ⟨e, B, I, A⟩ => ?_
  simp only [ev] at A
  refine ⟨e, B, I, A.bind.imp fun ds B1 H1 g h vs hn hvs => ?_⟩
  show spP _ _ _ _ _ _ _ (vs ++ []) _ _ _
  rw [List.append_nil]
  refine call_go hK (I.step g) (hn.trans hl) hvs (After.imp h fun d B2 H2 g2 q v hv fr => q v (.mk' (by simp only [sf]) (by simp only [ss]) hv) ?_)
  intro hl'
  obtain ⟨ds, a, xs, e1, e2, e3, e4, e5, e6⟩ := fr rfl hl'
  exact ⟨ds, a, xs, e1, e2, e3, e4, Go.nw I g e5, by simp only [ss]; exact e6⟩
theorem d_callb {k f np i : Nat} {g : Addr} {fd : FuncData} {ps : List Str} {x y : Str} (FO : FnOk X.prog X.w X.K X.mg X.base (L2N.CX X.prog X.w) k g fd ps (spB F.T F.cls F.Γ.callb X.K f np)) (hr : Room k X.A) (hg : Gl X x) (hm : X.mg x = some (.ref g)) (hk : PySem.W.keepIn X.K (.ref g) = true) (hb : Binds X.K fd ps [])
    (tk : Tk X F W) (hK : X.K = F.K) (hl : ms.len + 1 = np) (hN : X.N[i]? = some y) (hv : Vis X.env.scope y) (hd : (y == ("__debug__" : Str)) = false) (hcd : (y == ("__classdict__" : Str)) = false) (ha : PA X es (tA F W ms)) (hdb : (x == ("__debug__" : Str)) = false) (hps : es.all plainE = true) :
    PE X (.Call (.Name x p) (.Name y p2 :: es) [] pos) (tD F W (.callb i f ms)) := by
  refine (pe_call FO hr hg hm hk hb .nil tk.passes (pa_cons (pe_var hN hv hd hcd) (pa_len ha) rfl) hdb rfl (star_any hps)).imp fun σ H Q ⟨e, B, I, A⟩ => ?_
  simp only [ev] at A
  cases q : e[i]? with
  | none => rw [q] at A; exact A.elim
  | some z =>
    rw [q] at A
    cases z with
    | bag =>
      obtain ⟨_, b, e1, e2, _⟩ := I.bag i q
      refine ⟨_, e1, e, B, I, A.bind.imp fun ds B1 H1 g h vs hn hvs => ?_⟩
      have I1 := I.step g
      have hB : Bm σ e b := ⟨i, q, e1⟩
      refine ⟨?_, Pr F σ e (sfs F.O ms), ds, b, B1, vs, by rw [List.append_nil], I1.domP _, I1.tabs, hB.pr, g.bag i b q e1, by rw [hK]; exact hvs, ?_⟩
      · rw [List.append_nil, List.length_cons, hn]; exact hl
      have hM : ∀ a, some b = some a → Bm σ e a := fun a z => by cases z; exact hB
      cases r : F.Γ.callb f ds B1 with
      | stuck => rw [r] at h; exact h
      | err c => rw [r] at h; exact fun H' x => ⟨c, rfl, rfl, h H' (x.mono hM)⟩
      | ok p =>
        obtain ⟨d, B'⟩ := p
        rw [r] at h
        intro v H' x hb' hv
        rw [hK] at hv
        refine h H' ⟨x.mono hM, fun j b' j1 j2 => ?_⟩ v (.mk' (by simp only [sf]) (by simp only [ss]) hv)
        have ij := I.one i j q j1
        subst ij
        rw [e1] at j2; cases j2
        exact hb'
    | _ => exact A.elim
theorem can_ints : ∀ B : List Int, PyData.canLayAll0 (B.map .int) = true
  | [] => rfl
  | x :: r => by
    show (true && PyData.canLayAll0 (r.map .int)) = true
    rw [can_ints r]; rfl
theorem depth_ints : ∀ B : List Int, PyData.depthAll (B.map .int) = 0
  | [] => rfl
  | x :: r => by
    show max 0 (PyData.depthAll (r.map .int)) = 0
    rw [depth_ints r]; rfl
theorem shaped_ints (B : List Int) : SeqAt.shaped (.list (B.map .int)) = true := by
  show (PyData.canLayAll0 (B.map .int) && decide (PyData.depthAll (B.map .int) + 1 ≤ 64)) = true
  rw [can_ints, depth_ints]; rfl
theorem d_bagne {i : Nat} {y : Str} (hN : X.N[i]? = some y) (hu : X.A.units + 65 < cLine) (hv : Vis X.env.scope y) (hd : (y == ("__debug__" : Str)) = false) (hcd : (y == ("__classdict__" : Str)) = false) :
    PE X (.Compare (.Name y p) [.NotEq] [.List [] p2] pos) (tD F W (.bagne i)) := by
  refine (pe_cmpR (op_neD (by omega)) (pe_var hN hv hd hcd) (pe_lst pa_nil) rfl).imp fun σ H Q ⟨e, B, I, A⟩ => ?_
  simp only [ev] at A
  cases q : e[i]? with
  | none => rw [q] at A; exact A.elim
  | some z =>
    rw [q] at A
    cases z with
    | bag =>
      obtain ⟨_, b, e1, e2, _⟩ := I.bag i q
      refine ⟨_, e1, Nat.zero_le _, fun p hp => ⟨.list (B.map .int), .list [], .lst (SqL.of (same_new hp _ _ e2)) (DvAll.dp (A := none_) _ (.ofInts _)), .lst (SqL.of upd_same) .nil, shaped_ints B, rfl, ?_⟩⟩
      have eb : (!PyData.eqv (.list (B.map .int)) (.list [])) = !B.isEmpty := by cases B <;> rfl
      rw [eb]
      exact A _ (I.here.same (same_new hp)) _ .bl
    | _ => exact A.elim
theorem d_bagpop {i k0 : Nat} {y : Str} {p3 p4 : Pos} (hN : X.N[i]? = some y) (hv : Vis X.env.scope y) (hd : (y == ("__debug__" : Str)) = false) (hcd : (y == ("__classdict__" : Str)) = false) (hline : (p2.endLine == pos.line) = true) :
    PE X (.Call (.Attribute (.Name y p) "pop" p2) [.Constant (.int 0) k0 p3] [] pos) (tD F W (.bagpop i)) := by
  refine (pe_bm PySem.F.plainAttrs_list PySem.F.slot_list_pop PySem.F.type_list_pop mt_popAt (pe_var hN hv hd hcd) (pa_cons pe_int pa_nil) rfl rfl hline).imp fun σ H Q ⟨e, B, I, A⟩ => ?_
  simp only [ev] at A
  cases q : e[i]? with
  | none => rw [q] at A; exact A.elim
  | some z =>
    rw [q] at A
    cases z with
    | bag =>
      cases B with
      | nil => exact A.elim
      | cons n r =>
        obtain ⟨_, b, e1, e2, _⟩ := I.bag i q
        refine ⟨_, e1, .inl ⟨rfl, _, SqL.of e2⟩, b, _, 0, 0, .int n, rfl, rfl, e2, by decide, by decide, ?_, rfl, ?_⟩
        · simp [seqIndex?]
        · refine A _ ⟨Ext.lst e2 ⟨i, q, e1⟩, fun j b' j1 j2 => ?_⟩ _ (.ofV fun _ => .ofI n)
          have ij := I.one i j q j1
          subst ij
          rw [e1] at j2; cases j2
          show upd H b _ b = _
          rw [upd_same]; rfl
    | _ => exact A.elim
end
end PD
set_option linter.all false
set_option maxRecDepth 100000
set_option maxHeartbeats 1000000
/-! enumerate over a tuple. -/
namespace PD
open PySem PySem.Spec PyProof.Rows L2
/-- the heap behind enumerate of the tuple at a -/
def ensH (q : Heap) (a : Addr) : Heap :=
  (q.push { cls := .type "tuple_iterator", data := .fields #[.ref a, .int 0 0] }).push
    { cls := .type "enumerate", data := .fields #[.none, .bool false, .ref q.objs.size, rawInt 0, .none, .none] }
section
open AutoSeq1 (wpAny_loadPart')
theorem ens_made (a : Addr) (ys : Array Value) (m : Nat) (dd : Option Addr) (zs : Array (Option Value)) :
    Meets (Builtin.«enumerate.__new__» ⟨[.type "enumerate", .ref a], []⟩) (fun _ Z u =>
      u.heap.get? a = some { cls := .type "tuple", dict := dd, data := .seq ys m, slots := zs } ∧ Z (.ok (.ret (.ref (u.heap.objs.size + 1)))) { u with heap := ensH u.heap a }) := by
  refine .of_wp fun prog w A R s h => ?_
  obtain ⟨q, gs, dp, tk, os⟩ := s
  obtain ⟨ha, h⟩ := h
  have e1 := sub_enumerate
  have ht : Heap.IsTuple (Shared.heap ⟨q, gs, dp, tk, os⟩) a ys := ⟨_, ha, rfl, m, rfl⟩
  have h : R (.ok (.ret (.ref (q.push { cls := .type "tuple_iterator", data := .fields #[.ref a, .int 0 0] }).objs.size))) ⟨ensH q a, gs, dp, tk, os⟩ := by
    rw [Heap.size_push]; exact h
  wp_walk using wpAny_loadPart' ha
  refine wpAny_stack_any fun st => wpAny_pure ?_
  split
  · rename_i cc _ _ _ _ _
    cases (cc == Value.type "enumerate")
    all_goals
      wp_walk using wpAny_loadPart' ha, wpAny_pyIter_tuple ht
      exact ⟨_, rfl, h⟩
  · wp_walk using wpAny_loadPart' ha, wpAny_pyIter_tuple ht
    exact ⟨_, rfl, h⟩
end
section
variable {prog : Program} {w : World} {A : Around} {E : Value → Shared → Prop} {s : Shared}
theorem ens_call {a : Addr} {ys : Array Value} {Q : Value → Shared → Prop} (ht : s.heap.IsTuple a ys)
    (h : ∀ q, IsEnum q (s.heap.objs.size + 1) s.heap.objs.size 0 .none → q.IsTupleIter s.heap.objs.size a 0 → (∀ b o, s.heap.get? b = some o → q.get? b = some o) → Q (.ref (s.heap.objs.size + 1)) { s with heap := q }) :
    wpAny (model prog w) A (call (.type "enumerate") [.ref a]) Q E s := by
  obtain ⟨⟨c, dd, dt, zs⟩, ha, hc, m, hd⟩ := ht
  simp only at hc hd
  subst hc hd
  refine callType_new F.called_enumerate (by decide) (F.typeCall_enumerate_1 _) (F.newCall_enumerate_1 _) (fun obj => F.args_object_init_2 obj _) F.entry_enumerate_new (ens_made a ys m dd zs) ⟨ha, ?_⟩
  have hz : (s.heap.push { cls := .type "tuple_iterator", data := .fields #[.ref a, .int 0 0] }).objs.size = s.heap.objs.size + 1 := Heap.size_push ..
  have he : IsEnum (ensH s.heap a) (s.heap.objs.size + 1) s.heap.objs.size 0 .none := by
    rw [← hz]
    exact Heap.get?_push_size _ rfl
  exact ⟨⟨_, he, rfl⟩, h _ he ⟨_, Heap.get?_push_of_some _ (Heap.get?_push_size _ rfl), rfl, rfl⟩ fun b o x => Heap.get?_push_of_some _ (Heap.get?_push_of_some _ x)⟩
end
/-- the tuple at a, each item in a new pair with its number -/
def IteT (K : PySem.W.Frag) (a : Addr) : It :=
  ⟨fun i H => ∃ (xs : List V) (x : V), SqT K H a xs ∧ xs[i]? = some x,
    fun i H v H' => ∃ T x, v = .ref T ∧ H T = none ∧ H' = upd H T (.tup [.int (i : Nat), x]) ∧ ∀ xs, SqT K H a xs → xs[i]? = some x,
    fun i H => ∃ xs : List V, SqT K H a xs ∧ xs.length ≤ i⟩
theorem turn_enT {P : Program} {w : World} {K : PySem.W.Frag} {elts : List Expr} {kk : Nat} {tpos : Pos} (a e it : Addr) :
    Turn P w K (.Tuple elts kk tpos) (IteT K a) [e, it] e (fun i h => (∃ old, IsEnum h e it ((i : Nat) : Int) old) ∧ h.IsTupleIter it a i ∧ e ≠ it ∧ a ≠ it ∧ e ≠ a) where
  mem := by simp
  obj := by
    intro i h st b hb
    obtain ⟨⟨old, he⟩, ⟨o, ho, hc, hd⟩, _⟩ := st
    rcases (by simpa using hb : b = e ∨ b = it) with z | z
    · rw [z]; exact ⟨_, he, fun v q => nomatch q⟩
    · rw [z]; exact ⟨o, ho, fun v q => by rw [hd] at q; cases q⟩
  keep := by
    intro i h h' st k
    obtain ⟨⟨old, he⟩, hi, hne⟩ := st
    exact ⟨⟨old, k e (by simp) _ he⟩, hi.at fun o q => k it (by simp) o q, hne⟩
  item := by
    intro X hP hw hK hc i pins s σ H E I hf st hg
    subst hP hw hK
    obtain ⟨⟨old, he⟩, hit, hne, hai, hea⟩ := st
    obtain ⟨xs, x, hq, hx⟩ := hg
    obtain ⟨its, rv, pt, hz⟩ := I.tuple hq
    obtain ⟨u, hu, ru⟩ := rv.get hx
    have hel : e < s.heap.objs.size := Heap.lt_size he
    have hil : it < s.heap.objs.size := by
      obtain ⟨_, q, _⟩ := hit
      exact Heap.lt_size q
    have hlt : i < its.toArray.size := by
      have : its[i]? = some u := hu
      obtain ⟨z, _⟩ := List.getElem?_eq_some_iff.mp this
      simpa using z
    have hA : X.A.in1.handled = none := I.ok.hd hc
    refine wpAny_pyNext_enum_itemD (Draws.tuple hA it a hai its.toArray) he ⟨hit, pt⟩ hlt hne (by simp [hne, hea]) fun y h' tk hy ho st' hT hsz hk => ?_
    have ey : y = u := by
      have h1 : its[i]? = some u := hu
      have h2 : its.toArray[i]? = some y := hy
      rw [List.getElem?_toArray, h1] at h2
      exact (Option.some.inj h2).symm
    subst ey
    refine ⟨_, rfl, wpAny_letOwnedTupleGo_enum (s := { s with heap := h', toks := tk + 1 }) ho fun h'' he' sb => ?_⟩
    have hT2 : h''.get? s.heap.objs.size = some { cls := .type "tuple", data := .seq #[.int i tk, y] } := (sb.2 _ (Nat.ne_of_gt hel)).trans hT
    have new : ObjOk X.prog X.w (upd H s.heap.objs.size (.tup [.int (i : Nat), x])) h'' s.heap.objs.size (.tup [.int (i : Nat), x]) :=
      ⟨by show 2 ≤ sizeLine; decide, [.int i tk, y], .cons ⟨_, rfl⟩ (.cons ru .nil), ⟨_, hT2, rfl, _, rfl⟩⟩
    have I1 : Inv X pins σ (upd H s.heap.objs.size (.tup [.int (i : Nat), x])) { s with heap := h'', toks := tk + 1 } :=
      I.turnedNew (ch := [e, it]) (fun b ob hb q => (sb.2 b (fun z => hb (by simp [z]))).trans (hk b ob (fun z => hb (by simp [z])) (fun z => hb (by simp [z])) q)) hf (Nat.le_refl _) new
    refine ⟨.ref s.heap.objs.size, _, I1, rfl, ⟨_, x, rfl, I.hok.fresh (Nat.le_refl _), rfl, fun ys hy => by rw [I.tuple_inj hy hq]; exact hx⟩, ⟨⟨y, ?_⟩, st'.1.at fun o q => (sb.2 it (Ne.symm hne)).trans q, hne, hai, hea⟩, fun b hb => ?_⟩
    · have e1 : ((i + 1 : Nat) : Int) = (i : Int) + 1 := by omega
      rw [e1]; exact he'
    · have hb' : b < s.heap.objs.size := by
        rcases (by simpa using hb : b = e ∨ b = it) with z | z
        · rw [z]; exact hel
        · rw [z]; exact hil
      rw [upd_ne (Nat.ne_of_lt hb')]
      exact (hf b hb).1
  done := by
    intro X hP hw hK hc i pins s σ H E I hf st hg
    subst hP hw hK
    obtain ⟨⟨old, he⟩, hit, hne, hai, hea⟩ := st
    obtain ⟨xs, hq, hx⟩ := hg
    obtain ⟨its, rv, pt, hz⟩ := I.tuple hq
    obtain ⟨f0, f1, f2, f3, f4, f5⟩ := hf it (by simp)
    have hl := rv.length
    have hA : X.A.in1.handled = none := I.ok.hd hc
    have hT : s.TypeIs (.ref e) "enumerate" := ⟨_, he, rfl⟩
    have fin : wpAny (model X.prog X.w) X.A (pyNext (.ref e)) (fun r s' => r = none ∧ Inv X pins σ H s') E s := by
      unfold pyNext
      refine wpAny_bind (wpAny_attempt (wpAny_callSpecial?_slot (name := Str.ofString "__next__") hT F.slot_enumerate_next
        (wpAny_call_entry F.slot_enumerate_next hT F.entry_enumerate_next ?_ (F.args_enumerate_next_1 _))))
      show wpAny _ _ (field (.ref e) 2 >>= _) _ _ _
      refine wpAny_bind (wpAny_field he rfl (x := .ref it) rfl ?_)
      refine wpAny_bind (wpAny_nextOf_tuple_end hA hit pt (by simp; omega) fun h' x eb hx' => ?_)
      obtain ⟨o, ho, hc'⟩ := hx'
      refine wpAny_bind (wpAny_isInstance (T := "StopIteration") (b := true) ⟨o, ho, hc'⟩ isSubtype_stop ?_)
      exact wpAny_pure ⟨rfl, I.turned (t' := s.toks) (fun b o hb q => eb b o hb q) f0 f1 f3 f4 f5⟩
    exact fin
  self := fun A i s Q E st h => by
    obtain ⟨⟨_, he⟩, _⟩ := st
    exact wpAny_pyIter_enum he h
def iEnA (K : PySem.W.Frag) (ta : TA) : TI := fun σ H R => ta σ H fun vs H1 => ∃ a xs, vs = [.ref a] ∧ ((SqL K H1 a xs ∧ R (Ite K a) H1) ∨ (SqT K H1 a xs ∧ R (IteT K a) H1))
theorem pi_enA {X : Cx} {e : Expr} {ta : TA} {p pos tpos : Pos} {elts : List Expr} {kk : Nat} (hg : Gl X "enumerate") (hm : X.mg "enumerate" = none) (ha : PA X [e] ta) (hs : starEach [e] X.env = [(false, eval e X.env)]) :
    PI X (.Tuple elts kk tpos) (.Call (.Name "enumerate" p) [e] [] pos) (iEnA X.K ta) := by
  refine ⟨fun pins s σ H R I h => Call_ (ld_blt I hg hm boot_enumerate (PyProof.Rows.callWith_type1 (thn (ha.run pos pins s σ H _ I h) fun us s1 ⟨vs, H1, I1, r1, q1⟩ => ?_) hs rfl))⟩
  obtain ⟨a, xs, ex, q1⟩ := q1
  subst ex
  cases r1 with
  | cons r rr =>
    cases rr
    cases r
    have two : ∀ b ∈ [s1.heap.objs.size + 1, s1.heap.objs.size], FpOk X pins H1 b := fun b hb => by
      have hle : s1.heap.objs.size ≤ b := by
        rcases (by simpa using hb : b = s1.heap.objs.size + 1 ∨ b = s1.heap.objs.size) with z | z <;> rw [z]
        · exact Nat.le_add_right _ _
        · exact Nat.le_refl _
      exact I1.fpOk hle (I1.hok.fresh hle)
    rcases q1 with ⟨hq, q⟩ | ⟨hq, q⟩
    · obtain ⟨its, rv, p', hz⟩ := I1.list hq
      refine call_enumerate_list p'.isList fun h' he hit hsz hk => wpAny_pyIter_enum he ?_
      exact ⟨s1.heap.objs.size + 1, [s1.heap.objs.size + 1, s1.heap.objs.size], _, _, H1, rfl, I1.kept (t' := s1.toks) hk, turn_enum a (s1.heap.objs.size + 1) s1.heap.objs.size, ⟨⟨.none, he⟩, hit, Nat.succ_ne_self _⟩, two, q⟩
    · obtain ⟨its, rv, p', hz⟩ := I1.tuple hq
      have hlt : a < s1.heap.objs.size := by
        obtain ⟨o, ho, _⟩ := id p'
        exact Heap.lt_size ho
      refine ens_call (show s1.heap.IsTuple a its.toArray from p') fun h' he hit hk => wpAny_pyIter_enum he ?_
      exact ⟨s1.heap.objs.size + 1, [s1.heap.objs.size + 1, s1.heap.objs.size], _, _, H1, rfl, I1.kept (t' := s1.toks) hk, turn_enT a (s1.heap.objs.size + 1) s1.heap.objs.size, ⟨⟨.none, he⟩, hit, Nat.succ_ne_self _, Nat.ne_of_lt hlt, Nat.ne_of_gt (Nat.lt_succ_of_lt hlt)⟩, two, q⟩
/-- a list or a tuple -/
def iSq (K : PySem.W.Frag) (tl : TE) : TI := fun σ H R => tl σ H fun x H1 => ∃ a xs, x = .ref a ∧ ((SqL K H1 a xs ∧ R (Itl K a) H1) ∨ (SqT K H1 a xs ∧ R (Itt K a) H1))
theorem pi_sq {X : Cx} {tg l : Expr} {tl : TE} (hl : PE X l tl) : PI X tg l (iSq X.K tl) := by
  refine ⟨fun pins s σ H R I h => thn (hl.run pins s σ H _ I h) fun v s1 ⟨x, H1, I1, r1, q1⟩ => ?_⟩
  obtain ⟨a, xs, e, q1⟩ := q1
  subst e
  cases r1
  have one : ∀ b ∈ [s1.heap.objs.size], FpOk X pins H1 b := fun b hb => by
    rw [List.mem_singleton.mp hb]
    exact I1.fpOk (Nat.le_refl _) (I1.hok.fresh (Nat.le_refl _))
  rcases q1 with ⟨hq, q⟩ | ⟨hq, q⟩
  · obtain ⟨its, rv, p', hz⟩ := I1.list hq
    exact wpAny_pyIter_list p'.isList ⟨s1.heap.objs.size, [s1.heap.objs.size], _, _, H1, rfl, I1.kept (t' := s1.toks) fun b o e => Heap.get?_push_of_some _ e, turn_list a _, ⟨_, Heap.get?_push_size _ rfl, rfl, rfl⟩, one, q⟩
  · obtain ⟨its, rv, p', hz⟩ := I1.tuple hq
    exact wpAny_pyIter_tuple (show s1.heap.IsTuple a its.toArray from p') ⟨s1.heap.objs.size, [s1.heap.objs.size], _, _, H1, rfl, I1.kept (t' := s1.toks) fun b o e => Heap.get?_push_of_some _ e, turn_tuple a _, ⟨_, Heap.get?_push_size _ rfl, rfl, rfl⟩, one, q⟩
end PD
set_option linter.all false
set_option maxRecDepth 100000
set_option maxHeartbeats 1000000
/-! Targets, walks over data, comprehensions. -/
namespace PD
open PySem PySem.Spec PyProof.Rows L2
section
variable {F : Fx} {W : Nat → Hp → Prop} {σ σ' : Slots} {H H1 H2 H' : Hp} {e e' : SEnv} {B B1 B2 B' : Bg}
/-! ### a slot that holds a value, or nothing -/
theorem SI.put (I : SI F σ H e B) {i : Nat} {x : Option V} {z : Sl} (hi : i ∉ F.O) (hz : z = .emp ∨ ∃ d v, z = .val d ∧ x = some v ∧ Dv F.K H (Av F σ e) d v) : SI F (σ.set i x) H (e.set i z) B := by
  have zb : z ≠ .bag := by rcases hz with h | ⟨d, v, h, _⟩ <;> rw [h] <;> exact fun q => nomatch q
  have zo : ∀ ds, z ≠ .own ds := fun ds => by rcases hz with h | ⟨d, v, h, _⟩ <;> rw [h] <;> exact fun q => nomatch q
  have zd : ∀ ds, z ≠ .dic ds := fun ds => by rcases hz with h | ⟨d, v, h, _⟩ <;> rw [h] <;> exact fun q => nomatch q
  have zi : ∀ a ds, z ≠ .ins a ds := fun a ds => by rcases hz with h | ⟨d, v, h, _⟩ <;> rw [h] <;> exact fun q => nomatch q
  have ne : ∀ {j : Nat} {s : Sl}, (e.set i z)[j]? = some s → s ≠ z → j ≠ i ∧ e[j]? = some s := fun {j s} h n => by
    rw [List.getElem?_set] at h
    split at h
    · split at h
      · exact absurd (Option.some.inj h).symm n
      · cases h
    · rename_i q
      exact ⟨fun w => q w.symm, h⟩
  have at_ : ∀ {j : Nat}, j ≠ i → (σ.set i x)[j]? = σ[j]? := fun {j} n => by
    rw [List.getElem?_set, if_neg (fun w => n w.symm)]
  have bag' : ∀ {j : Nat}, (e.set i z)[j]? = some .bag → j ≠ i ∧ e[j]? = some .bag := fun h => ne h (fun q => zb q.symm)
  have own' : ∀ {j : Nat} {ds}, (e.set i z)[j]? = some (.own ds) → j ≠ i ∧ e[j]? = some (.own ds) := fun {j ds} h => ne h (fun q => zo ds q.symm)
  have Own' : ∀ {j : Nat}, Own (e.set i z) j → j ≠ i ∧ Own e j := fun {j} h => by
    rcases h with h | ⟨ds, h⟩
    · exact ⟨(bag' h).1, .inl (bag' h).2⟩
    · exact ⟨(own' h).1, .inr ⟨ds, (own' h).2⟩⟩
  have av : ∀ a, Av F (σ.set i x) (e.set i z) a → Av F σ e a := fun a h => by
    rcases h with h | ⟨j, h1, h2⟩
    · exact .inl h
    · obtain ⟨n, h1⟩ := Own' h1
      rw [at_ n] at h2
      exact .inr ⟨j, h1, h2⟩
  have bm : ∀ a, Bm (σ.set i x) (e.set i z) a → Bm σ e a := fun a ⟨j, h1, h2⟩ => by
    obtain ⟨n, h1⟩ := bag' h1
    rw [at_ n] at h2
    exact ⟨j, h1, h2⟩
  refine ⟨by rw [List.length_set, List.length_set]; exact I.len, I.ext, I.tabs, I.dom', fun j d h => ?_, fun j ds h => ?_, fun j h => ?_, fun j k a h1 h2 h3 h4 => ?_, fun j k h1 h2 => ?_, fun b h => ?_, fun p hp => (I.kp p hp).thru (.less av) (.less av), fun j kvs h => ?_, fun j a fs h => ?_⟩
  · by_cases hj : j = i
    · subst hj
      rcases hz with hz | ⟨d', v, hz, hx, hv⟩
      · rw [List.getElem?_set, if_pos rfl] at h
        split at h
        · rw [hz] at h; cases h
        · cases h
      · rw [List.getElem?_set, if_pos rfl] at h
        split at h
        · rename_i hl
          rw [hz] at h
          cases h
          refine ⟨v, ?_, hv.less av⟩
          rw [List.getElem?_set, if_pos rfl, if_pos (by rw [← I.len]; exact hl), hx]
        · cases h
    · have h' : e[j]? = some (.val d) := by
        rw [List.getElem?_set, if_neg (fun w => hj w.symm)] at h
        exact h
      obtain ⟨v, e1, h1⟩ := I.val j d h'
      exact ⟨v, by rw [at_ hj]; exact e1, h1.less av⟩
  · obtain ⟨n, h⟩ := own' h
    obtain ⟨h0, a, xs, e1, e2, e3, e4, e5, e6⟩ := I.own j ds h
    exact ⟨h0, a, xs, by rw [at_ n]; exact e1, e2, e3, e4.less av, e5, fun q => e6 (q.elim .inl fun q => .inr (bm a q))⟩
  · obtain ⟨n, h⟩ := bag' h
    obtain ⟨h0, b, e1, e2, e3⟩ := I.bag j h
    exact ⟨h0, b, by rw [at_ n]; exact e1, e2, e3⟩
  · obtain ⟨n1, h1⟩ := Own' h1
    obtain ⟨n2, h2⟩ := Own' h2
    rw [at_ n1] at h3
    rw [at_ n2] at h4
    exact I.inj j k a h1 h2 h3 h4
  · exact I.one j k (bag' h1).2 (bag' h2).2
  · obtain ⟨j, h1, h2⟩ := I.b0 b h
    have n : j ≠ i := fun w => hi (by rw [← w]; exact (I.bag j h1).1)
    exact ⟨j, by rw [List.getElem?_set, if_neg (fun w => n w.symm)]; exact h1, by rw [at_ n]; exact h2⟩
  · obtain ⟨n, h⟩ := ne h (fun q => zd kvs q.symm)
    obtain ⟨h0, a, xs, e1, e2, e3, e4, e5, e6, e7⟩ := I.dic j kvs h
    refine ⟨h0, a, xs, by rw [at_ n]; exact e1, e2, e3, e4.less av, e5, e6, fun k kws q1 q2 => ?_⟩
    obtain ⟨n2, q1⟩ := ne q1 (fun q => zd kws q.symm)
    rw [at_ n2] at q2
    exact e7 k kws q1 q2
  · obtain ⟨n, h⟩ := ne h (fun q => zi a fs q.symm)
    obtain ⟨h0, e1, e2⟩ := I.ins j a fs h
    exact ⟨h0, by rw [at_ n]; exact e1, e2.less av⟩
theorem SI.setV (I : SI F σ H e B) {i : Nat} {d : D} {v : V} (hi : i ∉ F.O) (hv : Dv F.K H (Av F σ e) d v) : SI F (σ.set i (some v)) H (e.set i (.val d)) B := I.put hi (.inr ⟨d, v, rfl, rfl, hv⟩)
theorem SI.wipe (I : SI F σ H e B) : ∀ {vs : List Nat}, (∀ i ∈ vs, i ∉ F.O) → SI F (L2.wipe σ vs) H (wipeE e vs) B
  | [], _ => I
  | v :: vs, h => (I.wipe (vs := vs) fun i hi => h i (List.mem_cons_of_mem _ hi)).put (h v List.mem_cons_self) (.inl rfl)
theorem wipeE_out : ∀ {vs : List Nat} {i : Nat}, i ∉ vs → (wipeE e vs)[i]? = e[i]?
  | [], _, _ => rfl
  | v :: vs, i, h => by
    unfold wipeE
    rw [List.getElem?_set, if_neg (fun q => h (by rw [q]; exact List.mem_cons_self)), wipeE_out fun q => h (List.mem_cons_of_mem _ q)]
theorem wipeE_in : ∀ {vs : List Nat} {i : Nat} {s : Sl}, i ∈ vs → (wipeE e vs)[i]? = some s → s = .emp
  | v :: vs, i, s, h, q => by
    unfold wipeE at q
    rw [List.getElem?_set] at q
    split at q
    · split at q
      · exact (Option.some.inj q).symm
      · cases q
    · rename_i n
      rcases List.mem_cons.mp h with h | h
      · exact absurd h.symm n
      · exact wipeE_in h q
/-- two states with the same written lists -/
structure Alike (O : List Nat) (σ σ' : Slots) (e e' : SEnv) : Prop where
  l : ∀ i, i ∈ O → σ'[i]? = σ[i]? ∧ e'[i]? = e[i]?
theorem Alike.bm (h : Alike F.O σ σ' e e') (I : SI F σ H e B) (I' : SI F σ' H1 e' B1) (a : Addr) : Bm σ' e' a ↔ Bm σ e a := by
  constructor
  · rintro ⟨i, h1, h2⟩
    obtain ⟨q1, q2⟩ := h.l i (I'.bag i h1).1
    exact ⟨i, by rw [← q2]; exact h1, by rw [← q1]; exact h2⟩
  · rintro ⟨i, h1, h2⟩
    obtain ⟨q1, q2⟩ := h.l i (I.bag i h1).1
    exact ⟨i, by rw [q2]; exact h1, by rw [q1]; exact h2⟩
theorem SI.ownO (I : SI F σ H e B) {i : Nat} (h : Own e i) : i ∈ F.O := by
  rcases h with h | ⟨ds, h⟩
  · exact (I.bag i h).1
  · exact (I.own i ds h).1
theorem Alike.own (h : Alike F.O σ σ' e e') (I : SI F σ H e B) (I' : SI F σ' H1 e' B1) (i : Nat) : Own e' i ↔ Own e i := by
  constructor
  · intro q
    have := (h.l i (I'.ownO q)).2
    unfold Own at q ⊢
    rw [← this]; exact q
  · intro q
    have := (h.l i (I.ownO q)).2
    unfold Own at q ⊢
    rw [this]; exact q
theorem Alike.av (h : Alike F.O σ σ' e e') (I : SI F σ H e B) (I' : SI F σ' H1 e' B1) (a : Addr) : Av F σ' e' a ↔ Av F σ e a := by
  constructor
  · rintro (q | ⟨i, h1, h2⟩)
    · exact .inl q
    · have h1' := (h.own I I' i).mp h1
      exact .inr ⟨i, h1', by rw [← (h.l i (I.ownO h1')).1]; exact h2⟩
  · rintro (q | ⟨i, h1, h2⟩)
    · exact .inl q
    · exact .inr ⟨i, (h.own I I' i).mpr h1, by rw [(h.l i (I.ownO h1)).1]; exact h2⟩
theorem Alike.pr (h : Alike F.O σ σ' e e') (I : SI F σ H e B) (I' : SI F σ' H1 e' B1) (b : Bool) (a : Addr) : Pr F σ' e' b a ↔ Pr F σ e b a := by
  cases b
  · show (F.A0 a ∨ Bm σ' e' a) ↔ (F.A0 a ∨ Bm σ e a)
    rw [h.bm I I' a]
  · exact h.av I I' a
theorem Alike.go (h : Alike F.O σ σ' e e') (I : SI F σ H e B) (I' : SI F σ' H1 e' B1) (g : Go F σ' H1 e' B' H') : Go F σ H1 e B' H' := by
  refine ⟨g.ext.mono fun a q => (h.bm I I' a).mp q, fun i b h1 h2 => ?_⟩
  obtain ⟨q1, q2⟩ := h.l i (I.bag i h1).1
  exact g.bag i b (by rw [q2]; exact h1) (by rw [q1]; exact h2)
/-! ### targets -/
mutual
def Tgt.idx : Tgt → List Nat
  | .nm i => [i]
  | .tp ts => Tgts.idx ts
def Tgts.idx : List Tgt → List Nat
  | [] => []
  | t :: ts => Tgt.idx t ++ Tgts.idx ts
end
def gD (F : Fx) (t : Tgt) : TG := fun v σ H K => ∃ e B d e', SI F σ H e B ∧ Dv F.K H (Av F σ e) d v ∧ bindT t d e = some e' ∧
  ∀ σ', SI F σ' H e' B → Alike F.O σ σ' e e' → σ'.length = σ.length → (∀ j, j ∉ t.idx → σ'[j]? = σ[j]?) → K σ' H
def gDs (F : Fx) (ts : List Tgt) : TGs := fun vs σ H K => ∃ e B ds e', SI F σ H e B ∧ DvAll F.K H (Av F σ e) ds vs ∧ bindTs ts ds e = some e' ∧
  ∀ σ', SI F σ' H e' B → Alike F.O σ σ' e e' → σ'.length = σ.length → (∀ j, j ∉ Tgts.idx ts → σ'[j]? = σ[j]?) → K σ' H
theorem _root_.L2.PG.imp {X : Cx} {e : Expr} {t t' : TG} (h : PG X e t) (k : ∀ v σ H Q, t' v σ H Q → t v σ H Q) : PG X e t' := ⟨fun pins s σ H v u Q I r q => h.run pins s σ H v u Q I r (k v σ H Q q)⟩
theorem _root_.L2.PGs.imp {X : Cx} {e : List Expr} {t t' : TGs} (h : PGs X e t) (k : ∀ v σ H Q, t' v σ H Q → t v σ H Q) : PGs X e t' := ⟨fun pins s σ H v u Q I r q => h.run pins s σ H v u Q I r (k v σ H Q q)⟩
theorem Alike.refl {O : List Nat} : Alike O σ σ e e := ⟨fun _ _ => ⟨rfl, rfl⟩⟩
theorem Alike.trans {O : List Nat} {σ2 : Slots} {e2 : SEnv} (a : Alike O σ σ' e e') (b : Alike O σ' σ2 e' e2) : Alike O σ σ2 e e2 := ⟨fun i h => ⟨(b.l i h).1.trans (a.l i h).1, (b.l i h).2.trans (a.l i h).2⟩⟩
section
variable {X : Cx} {pos : Pos}
theorem g_nm {i : Nat} {x : Str} (hN : X.N.Nodup) (hi : X.N[i]? = some x) (hx : Loc X.env.scope x) (hf : X.fn x = true ∨ X.env.scope.names.lookup x = some .local) (hO : i ∉ F.O) : PG X (.Name x pos) (gD F (.nm i)) := by
  refine (pg_name hN hi hx hf).imp fun v σ H K ⟨e, B, d, e', I, hv, hb, k⟩ => ?_
  simp only [bindT] at hb
  cases hb
  refine k _ (I.setV hO hv) ⟨fun j hj => ?_⟩ (List.length_set ..) fun j hj => ?_
  · have n : i ≠ j := fun q => hO (by rw [q]; exact hj)
    exact ⟨by rw [List.getElem?_set, if_neg n], by rw [List.getElem?_set, if_neg n]⟩
  · have n : i ≠ j := fun q => hj (by simp only [Tgt.idx, List.mem_singleton]; exact q.symm)
    rw [List.getElem?_set, if_neg n]
theorem g_nil : PGs X [] (gDs F []) := pgs_nil.imp fun vs σ H K ⟨e, B, ds, e', I, hv, hb, k⟩ => by
  cases ds with
  | nil =>
    simp only [bindTs] at hb
    cases hb
    exact ⟨hv.eqnil, k σ I .refl rfl fun _ _ => rfl⟩
  | cons d ds => simp only [bindTs] at hb; cases hb
theorem g_cons {a : Expr} {es : List Expr} {t : Tgt} {ts : List Tgt} (h1 : PG X a (gD F t)) (h2 : PGs X es (gDs F ts)) (hs : (assignEach (a :: es) X.env).map (·.2) = assign a X.env :: (assignEach es X.env).map (·.2)) : PGs X (a :: es) (gDs F (t :: ts)) := by
  refine (pgs_cons h1 h2 hs).imp fun vs σ H K ⟨e, B, ds, e', I, hv, hb, k⟩ => ?_
  cases ds with
  | nil => simp only [bindTs] at hb; cases hb
  | cons d ds =>
    obtain ⟨v, r, rfl, h1, h2⟩ := hv.uncons
    simp only [bindTs] at hb
    cases q : bindT t d e with
    | none => rw [q] at hb; cases hb
    | some e1 =>
      rw [q] at hb
      refine ⟨v, r, rfl, e, B, d, e1, I, h1, q, fun σ1 I1 al hl hj => ?_⟩
      refine ⟨e1, B, ds, e', I1, h2.less fun a z => (al.av I I1 a).mp z, hb, fun σ2 I2 al2 hl2 hj2 => k σ2 I2 (al.trans al2) (hl2.trans hl) fun j hjn => ?_⟩
      simp only [Tgts.idx, List.mem_append, not_or] at hjn
      exact (hj2 j hjn.2).trans (hj j hjn.1)
theorem bindTs_len : ∀ {ts : List Tgt} {ds : List D} {e e' : SEnv}, bindTs ts ds e = some e' → ds.length = ts.length
  | [], [], _, _, _ => rfl
  | [], _ :: _, _, _, h => by simp only [bindTs] at h; cases h
  | _ :: _, [], _, _, h => by simp only [bindTs] at h; cases h
  | t :: ts, d :: ds, e, e', h => by
    simp only [bindTs] at h
    split at h
    · rw [List.length_cons, List.length_cons, bindTs_len h]
    · cases h
theorem g_tp {es : List Expr} {k : Nat} {ts : List Tgt} (hc : X.calm = true) (hK : X.K = F.K) (h : PGs X es (gDs F ts)) (hn : (assignEach es X.env).length = ts.length) (hst : (assignEach es X.env).findIdx? (·.1) = none) : PG X (.Tuple es k pos) (gD F (.tp ts)) := by
  refine (pg_tup hc h hn hst).imp fun v σ H K ⟨e, B, d, e', I, hv, hb, k⟩ => ?_
  simp only [bindT] at hb
  cases d with
  | tuple ds =>
    obtain ⟨a, xs, rfl, h1, z, t⟩ := hv.t
    exact ⟨a, xs, rfl, by rw [hK]; exact h1, t.length.trans (bindTs_len hb), e, B, ds, e', I, t, hb, fun σ' I' al hl hj => k σ' I' al hl fun j hjn => hj j (by simpa only [Tgt.idx] using hjn)⟩
  | _ => cases hb
end
end
end PD
set_option linter.all false
set_option maxRecDepth 100000
set_option maxHeartbeats 1000000
/-! Walks over data, comprehensions. -/
namespace PD
open PySem PySem.Spec PyProof.Rows L2
/-- J walks over ds as long as what kp names stands -/
structure WK (K : PySem.W.Frag) (kp : List (D × V)) (ds : List D) (J : It) : Prop where
  len : ds.length ≤ sizeLine
  go : ∀ i H (A0 A : Addr → Prop), i < ds.length → (∀ p ∈ kp, Dj K H A0 A p.1 p.2) → J.go i H
  stop : ∀ H (A0 A : Addr → Prop), (∀ p ∈ kp, Dj K H A0 A p.1 p.2) → J.stop ds.length H
  yld : ∀ i H (A0 A : Addr → Prop) x H', i < ds.length → (∀ p ∈ kp, Dj K H A0 A p.1 p.2) → J.yld i H x H' → Same H H' ∧ ∃ d, ds[i]? = some d ∧ Dv K H' A d x
theorem DvAll.at {K : PySem.W.Frag} {H : Hp} {A : Addr → Prop} {ds : List D} {xs : List V} {i : Nat} (t : DvAll K H A ds xs) (h : i < ds.length) : ∃ d x, ds[i]? = some d ∧ xs[i]? = some x ∧ Dv K H A d x := by
  obtain ⟨x, h1, h2⟩ := t.get (List.getElem?_eq_getElem h)
  exact ⟨_, x, List.getElem?_eq_getElem h, h1, h2⟩
theorem Dj.l {K : PySem.W.Frag} {H : Hp} {A0 A : Addr → Prop} {ds : List D} {v : V} (h : Dj K H A0 A (.list ds) v) : ∃ a xs, v = .ref a ∧ Lq K H A0 a xs ∧ xs.length ≤ sizeLine ∧ DvAll K H A ds xs := h
theorem Dj.t {K : PySem.W.Frag} {H : Hp} {A0 A : Addr → Prop} {ds : List D} {v : V} (h : Dj K H A0 A (.tuple ds) v) : ∃ a xs, v = .ref a ∧ SqT K H a xs ∧ xs.length ≤ sizeLine ∧ DvAll K H A ds xs := Dv.t (K := K) (H := H) (A := A) h
theorem wk_list {K : PySem.W.Frag} {a : Addr} {ds : List D} (hl : ds.length ≤ sizeLine) : WK K [(.list ds, .ref a)] ds (Itl K a) := by
  refine ⟨hl, fun i H A0 A hi h => ?_, fun H A0 A h => ?_, fun i H A0 A x H' hi h y => ?_⟩
  · obtain ⟨b, xs, e, h1, z, t⟩ := (h _ (List.mem_singleton_self _)).l
    cases e
    obtain ⟨d, x, _, hx, _⟩ := t.at hi
    exact ⟨xs, x, h1.sq, hx⟩
  · obtain ⟨b, xs, e, h1, z, t⟩ := (h _ (List.mem_singleton_self _)).l
    cases e
    exact ⟨xs, h1.sq, by rw [t.length]; exact Nat.le_refl _⟩
  · obtain ⟨b, xs, e, h1, z, t⟩ := (h _ (List.mem_singleton_self _)).l
    cases e
    obtain ⟨y1, y2⟩ := y
    obtain ⟨d, x', hd, hx, hv⟩ := t.at hi
    have := y2 xs h1.sq
    rw [hx] at this
    cases this
    subst y1
    exact ⟨.refl _, d, hd, hv⟩
theorem wk_tup {K : PySem.W.Frag} {a : Addr} {ds : List D} (hl : ds.length ≤ sizeLine) : WK K [(.tuple ds, .ref a)] ds (Itt K a) := by
  refine ⟨hl, fun i H A0 A hi h => ?_, fun H A0 A h => ?_, fun i H A0 A x H' hi h y => ?_⟩
  · obtain ⟨b, xs, e, h1, z, t⟩ := (h _ (List.mem_singleton_self _)).t
    cases e
    obtain ⟨d, x, _, hx, _⟩ := t.at hi
    exact ⟨xs, x, h1, hx⟩
  · obtain ⟨b, xs, e, h1, z, t⟩ := (h _ (List.mem_singleton_self _)).t
    cases e
    exact ⟨xs, h1, by rw [t.length]; exact Nat.le_refl _⟩
  · obtain ⟨b, xs, e, h1, z, t⟩ := (h _ (List.mem_singleton_self _)).t
    cases e
    obtain ⟨y1, y2⟩ := y
    obtain ⟨d, x', hd, hx, hv⟩ := t.at hi
    have := y2 xs h1
    rw [hx] at this
    cases this
    subst y1
    exact ⟨.refl _, d, hd, hv⟩
theorem rangeD_len : ∀ {n : Nat} {lo : Int}, (rangeD lo n).length = n
  | 0, _ => rfl
  | n + 1, lo => by show (rangeD (lo + 1) n).length + 1 = n + 1; rw [rangeD_len]
theorem rangeD_at : ∀ {n i : Nat} {lo : Int}, i < n → (rangeD lo n)[i]? = some (.int (lo + i))
  | 0, _, _, h => by omega
  | n + 1, 0, lo, _ => by show some (PyData.int lo) = _; simp
  | n + 1, i + 1, lo, h => by
    show (rangeD (lo + 1) n)[i]? = _
    rw [rangeD_at (by omega)]
    have : lo + 1 + (i : Int) = lo + ((i + 1 : Nat) : Int) := by omega
    rw [this]
theorem wk_range {K : PySem.W.Frag} {lo : Int} {n : Nat} (hl : n ≤ sizeLine) : WK K [] (rangeD lo n) (Itr lo n) := by
  refine ⟨by rw [rangeD_len]; exact hl, fun i H A0 A hi h => ?_, fun H A0 A h => ?_, fun i H A0 A x H' hi h y => ?_⟩
  · rw [rangeD_len] at hi; exact hi
  · rw [rangeD_len]; exact Nat.le_refl _
  · rw [rangeD_len] at hi
    obtain ⟨y1, y2⟩ := y
    subst y1 y2
    exact ⟨.refl _, _, rangeD_at hi, .ofI _⟩
theorem enumD_len : ∀ {xs : List D} {n : Nat}, (enumD n xs).length = xs.length
  | [], _ => rfl
  | x :: xs, n => by show (enumD (n + 1) xs).length + 1 = xs.length + 1; rw [enumD_len]
theorem enumD_at : ∀ {xs : List D} {n i : Nat} {d : D}, xs[i]? = some d → (enumD n xs)[i]? = some (.tuple [.int ((n + i : Nat) : Int), d])
  | [], _, _, _, h => by simp at h
  | x :: xs, n, 0, d, h => by simp at h; subst h; rfl
  | x :: xs, n, i + 1, d, h => by
    show (enumD (n + 1) xs)[i]? = _
    rw [enumD_at (n := n + 1) (i := i) (d := d) (by simpa using h)]
    have : n + 1 + i = n + (i + 1) := by omega
    rw [this]
theorem pair_dv {K : PySem.W.Frag} {H : Hp} {A : Addr → Prop} {T : Addr} {d d' : D} {x x' : V} (hT : H T = none) (h : Dv K H A d x) (h' : Dv K H A d' x') : Dv K (upd H T (.tup [x, x'])) A (.tuple [d, d']) (.ref T) :=
  .newT hT (show 2 ≤ sizeLine by decide) (.cons h (.cons h' .nil))
theorem wk_enumL {K : PySem.W.Frag} {a : Addr} {ds : List D} (hl : ds.length ≤ sizeLine) : WK K [(.list ds, .ref a)] (enumD 0 ds) (Ite K a) := by
  refine ⟨by rw [enumD_len]; exact hl, fun i H A0 A hi h => ?_, fun H A0 A h => ?_, fun i H A0 A x H' hi h y => ?_⟩
  all_goals
    obtain ⟨b, xs, e, h1, z, t⟩ := (h _ (List.mem_singleton_self _)).l
    cases e
    try rw [enumD_len] at hi
  · obtain ⟨d, x, _, hx, _⟩ := t.at hi
    exact ⟨xs, x, h1.sq, hx⟩
  · exact ⟨xs, h1.sq, by rw [enumD_len, t.length]; exact Nat.le_refl _⟩
  · obtain ⟨T, x', y1, y2, y3, y4⟩ := y
    obtain ⟨d, x2, hd, hx, hv⟩ := t.at hi
    have := y4 xs h1.sq
    rw [hx] at this
    cases this
    subst y1 y3
    refine ⟨same_new y2, _, enumD_at hd, ?_⟩
    rw [Nat.zero_add]
    exact pair_dv y2 (.ofI _) hv
theorem wk_enumT {K : PySem.W.Frag} {a : Addr} {ds : List D} (hl : ds.length ≤ sizeLine) : WK K [(.tuple ds, .ref a)] (enumD 0 ds) (IteT K a) := by
  refine ⟨by rw [enumD_len]; exact hl, fun i H A0 A hi h => ?_, fun H A0 A h => ?_, fun i H A0 A x H' hi h y => ?_⟩
  all_goals
    obtain ⟨b, xs, e, h1, z, t⟩ := (h _ (List.mem_singleton_self _)).t
    cases e
    try rw [enumD_len] at hi
  · obtain ⟨d, x, _, hx, _⟩ := t.at hi
    exact ⟨xs, x, h1, hx⟩
  · exact ⟨xs, h1, by rw [enumD_len, t.length]; exact Nat.le_refl _⟩
  · obtain ⟨T, x', y1, y2, y3, y4⟩ := y
    obtain ⟨d, x2, hd, hx, hv⟩ := t.at hi
    have := y4 xs h1
    rw [hx] at this
    cases this
    subst y1 y3
    refine ⟨same_new y2, _, enumD_at hd, ?_⟩
    rw [Nat.zero_add]
    exact pair_dv y2 (.ofI _) hv
theorem zipD_len : ∀ {xs ys : List D}, (zipD xs ys).length = min xs.length ys.length
  | [], _ => by simp [zipD]
  | _ :: _, [] => by simp [zipD]
  | x :: xs, y :: ys => by
    show (zipD xs ys).length + 1 = _
    rw [zipD_len, List.length_cons, List.length_cons]
    omega
theorem zipD_at : ∀ {xs ys : List D} {i : Nat} {d d' : D}, xs[i]? = some d → ys[i]? = some d' → (zipD xs ys)[i]? = some (.tuple [d, d'])
  | [], _, _, _, _, h, _ => by simp at h
  | _ :: _, [], _, _, _, _, h => by simp at h
  | x :: xs, y :: ys, 0, d, d', h, h' => by simp at h h'; subst h h'; rfl
  | x :: xs, y :: ys, i + 1, d, d', h, h' => by
    show (zipD xs ys)[i]? = _
    exact zipD_at (by simpa using h) (by simpa using h')
theorem wk_zipL {K : PySem.W.Frag} {a b : Addr} {ds es : List D} (hl : ds.length ≤ sizeLine) : WK K [(.list ds, .ref a), (.list es, .ref b)] (zipD ds es) (Itz K a b) := by
  refine ⟨by rw [zipD_len]; omega, fun i H A0 A hi h => ?_, fun H A0 A h => ?_, fun i H A0 A x H' hi h y => ?_⟩
  all_goals
    obtain ⟨a', xs, e, h1, z, t⟩ := (h _ List.mem_cons_self).l
    cases e
    obtain ⟨b', ys, e, h2, z2, t2⟩ := (h _ (List.mem_cons_of_mem _ (List.mem_singleton_self _))).l
    cases e
    try rw [zipD_len] at hi
  · obtain ⟨d, x, _, hx, _⟩ := t.at (show i < ds.length by omega)
    obtain ⟨d2, y, _, hy, _⟩ := t2.at (show i < es.length by omega)
    exact ⟨xs, ys, x, y, h1.sq, h2.sq, hx, hy⟩
  · refine ⟨xs, ys, h1.sq, h2.sq, ?_⟩
    rw [zipD_len, t.length, t2.length]; omega
  · obtain ⟨T, x', y', y1, y2, y3, y4, y5⟩ := y
    obtain ⟨d, x2, hd, hx, hv⟩ := t.at (show i < ds.length by omega)
    obtain ⟨d2, x3, hd2, hx2, hv2⟩ := t2.at (show i < es.length by omega)
    have e1 := y4 xs h1.sq
    have e2 := y5 ys h2.sq
    rw [hx] at e1
    rw [hx2] at e2
    cases e1
    cases e2
    subst y1 y3
    exact ⟨same_new y2, _, zipD_at hd hd2, pair_dv y2 hv hv2⟩
theorem wk_zipT {K : PySem.W.Frag} {a b : Addr} {ds es : List D} (hl : ds.length ≤ sizeLine) : WK K [(.tuple ds, .ref a), (.tuple es, .ref b)] (zipD ds es) (RZ.ItzT K a b) := by
  refine ⟨by rw [zipD_len]; omega, fun i H A0 A hi h => ?_, fun H A0 A h => ?_, fun i H A0 A x H' hi h y => ?_⟩
  all_goals
    obtain ⟨a', xs, e, h1, z, t⟩ := (h _ List.mem_cons_self).t
    cases e
    obtain ⟨b', ys, e, h2, z2, t2⟩ := (h _ (List.mem_cons_of_mem _ (List.mem_singleton_self _))).t
    cases e
    try rw [zipD_len] at hi
  · obtain ⟨d, x, _, hx, _⟩ := t.at (show i < ds.length by omega)
    obtain ⟨d2, y, _, hy, _⟩ := t2.at (show i < es.length by omega)
    exact ⟨xs, ys, x, y, h1, h2, hx, hy⟩
  · refine ⟨xs, ys, h1, h2, ?_⟩
    rw [zipD_len, t.length, t2.length]; omega
  · obtain ⟨T, x', y', y1, y2, y3, y4, y5⟩ := y
    obtain ⟨d, x2, hd, hx, hv⟩ := t.at (show i < ds.length by omega)
    obtain ⟨d2, x3, hd2, hx2, hv2⟩ := t2.at (show i < es.length by omega)
    have e1 := y4 xs h1
    have e2 := y5 ys h2
    rw [hx] at e1
    rw [hx2] at e2
    cases e1
    cases e2
    subst y1 y3
    exact ⟨same_new y2, _, zipD_at hd hd2, pair_dv y2 hv hv2⟩
/-! ### readings of iterables -/
/-- whether the list walked over is none that is written, whether its items hold none -/
def sfI (O : List Nat) : MI → Bool
  | .seq e => sf O e
  | .rng1 _ => true
  | .rng2 _ _ => true
  | .zip a b => sf O a && sf O b
  | .enum a => sf O a
def ssI (O : List Nat) : MI → Bool
  | .seq e => ss O e
  | .rng1 _ => true
  | .rng2 _ _ => true
  | .zip a b => ss O a && ss O b
  | .enum a => ss O a
def iD (F : Fx) (W : Nat → Hp → Prop) (mi : MI) : TI := fun σ H R => ∃ e B, SI F σ H e B ∧ After F W σ H e (evi F.Γ mi e B) fun ds _ H' => ∀ J kp, WK F.K kp ds J → (∀ p ∈ kp, Dj F.K H' (Pr F σ e (sfI F.O mi)) (Av F σ e) p.1 p.2) → R J H'
theorem _root_.L2.PI.imp {X : Cx} {tg e : Expr} {t t' : TI} (h : PI X tg e t) (k : ∀ σ H R, t' σ H R → t σ H R) : PI X tg e t' := ⟨fun pins s σ H R I q => h.run pins s σ H R I (k σ H R q)⟩
section
variable {X : Cx} {F : Fx} {W : Nat → Hp → Prop} {pos p p2 : Pos} {tg a b c : Expr} {ma mb mc m : ME} {σ : Slots} {H : Hp}
theorem Rs.dj' {v : V} {e : SEnv} {d : D} {fl : Bool} (h : Rs F m σ e H d v) (hs : ss F.O m = true) (hf : fl = true → sf F.O m = true) : Dj F.K H (Pr F σ e fl) (Av F σ e) d v := by
  have h1 := h.dj
  rw [hs] at h1
  exact h1.thru (.less fun a q => q.le hf) (.less fun a q => q)
/-! ### the iterables -/
theorem wk_seq {ds : List D} {x : D} {v : V} {e : SEnv} (hx : seqD x = some ds) (hv : Dj F.K H (Pr F σ e (sf F.O m)) (Av F σ e) x v) {R : It → Hp → Prop} (k : ∀ J kp, WK F.K kp ds J → (∀ p ∈ kp, Dj F.K H (Pr F σ e (sf F.O m)) (Av F σ e) p.1 p.2) → R J H) :
    ∃ a xs, v = .ref a ∧ ((SqL F.K H a xs ∧ R (Itl F.K a) H) ∨ (SqT F.K H a xs ∧ R (Itt F.K a) H)) := by
  cases x with
  | list ds' =>
    simp only [seqD] at hx
    cases hx
    obtain ⟨a, xs, rfl, q, z, t⟩ := id hv.l
    exact ⟨a, xs, rfl, .inl ⟨q.sq, k _ _ (wk_list (by rw [← t.length]; exact z)) fun p hp => by rw [List.mem_singleton.mp hp]; exact hv⟩⟩
  | tuple ds' =>
    simp only [seqD] at hx
    cases hx
    obtain ⟨a, xs, rfl, q, z, t⟩ := id hv.t
    exact ⟨a, xs, rfl, .inr ⟨q, k _ _ (wk_tup (by rw [← t.length]; exact z)) fun p hp => by rw [List.mem_singleton.mp hp]; exact hv⟩⟩
  | _ => simp only [seqD] at hx; cases hx
theorem i_seq (hK : X.K = F.K) (hs : ss F.O ma = true) (ha : PE X a (tD F W ma)) : PI X tg a (iD F W (.seq ma)) := by
  refine (pi_sq ha).imp fun σ H R ⟨e, B, I, A⟩ => ?_
  simp only [evi] at A
  refine ⟨e, B, I, A.bind.imp fun x B1 H1 g h v hv => ?_⟩
  obtain ⟨ds, hd, k⟩ := h.ofO
  rw [hK]
  exact wk_seq (m := ma) hd (hv.dj' hs fun q => q) (k H1 (I.step g).here)
theorem i_rng1 (hg : Gl X "range") (hm : X.mg "range" = none) (ha : PE X a (tD F W ma)) (hp : plainE a = true) : PI X tg (.Call (.Name "range" p) [a] [] pos) (iD F W (.rng1 ma)) := by
  refine (pi_range1 hg hm (pa_1 ha hp) (star_plain hp)).imp fun σ H R ⟨e, B, I, A⟩ => ?_
  simp only [evi] at A
  refine ⟨e, B, I, A.bind.imp fun x B1 H1 g h v hv => ?_⟩
  cases x with
  | int j =>
    simp only at h
    split at h
    · rename_i hr
      simp only [rngOk, Bool.and_eq_true, decide_eq_true_eq] at hr
      refine ⟨j, by rw [hv.di.i], hr.1.1.2, hr.1.2, ?_⟩
      exact h H1 (I.step g).here _ [] (wk_range (by rw [sizeLine_eq]; omega)) fun p hp => by cases hp
    · exact h.elim
  | _ => exact False.elim h
theorem i_rng2 (hg : Gl X "range") (hm : X.mg "range" = none) (ha : PE X a (tD F W ma)) (hb : PE X b (tD F W mb)) (hp : plainE a = true) (hp2 : plainE b = true) : PI X tg (.Call (.Name "range" p) [a, b] [] pos) (iD F W (.rng2 ma mb)) := by
  refine (pi_range2 hg hm (pa_cons ha (pa_cons hb pa_nil (star_plain hp2)) (star_plain hp)) (by rw [star_plain hp, star_plain hp2]; rfl) (star_plain hp2)).imp fun σ H R ⟨e, B, I, A⟩ => ?_
  simp only [evi] at A
  refine ⟨e, B, I, A.bind.imp fun x B1 H1 g h v hv => ?_⟩
  refine ⟨e, B1, I.step g, h.bind.imp fun y B2 H2 g2 h2 w hw => ?_⟩
  cases x with
  | int i =>
    cases y with
    | int j =>
      simp only at h2
      split at h2
      · rename_i hr
        simp only [rngOk, Bool.and_eq_true, decide_eq_true_eq] at hr
        refine ⟨i, j, by rw [hv.di.i, hw.di.i], ⟨hr.1.1.1.1, hr.1.1.1.2, hr.1.1.2, hr.1.2⟩, ?_⟩
        exact h2 H2 ((I.step g).step g2).here _ [] (wk_range (by rw [sizeLine_eq]; omega)) fun p hp => by cases hp
      · exact h2.elim
    | _ => exact False.elim h2
  | _ => exact False.elim h2
theorem i_zip {elts : List Expr} {kk : Nat} {tpos : Pos} (hK : X.K = F.K) (hg : Gl X "zip") (hm : X.mg "zip" = none) (hs : ss F.O ma = true) (hs2 : ss F.O mb = true) (ha : PE X a (tD F W ma)) (hb : PE X b (tD F W mb)) (hp : plainE a = true) (hp2 : plainE b = true) :
    PI X (.Tuple elts kk tpos) (.Call (.Name "zip" p) [a, b] [] pos) (iD F W (.zip ma mb)) := by
  refine (RZ.pi_zipA hg hm (pa_cons ha (pa_cons hb pa_nil (star_plain hp2)) (star_plain hp)) (star_plain hp) (star_any (by simp [hp2]))).imp fun σ H R ⟨e, B, I, A⟩ => ?_
  simp only [evi] at A
  refine ⟨e, B, I, A.bind.imp fun x B1 H1 g h v hv => ?_⟩
  refine ⟨e, B1, I.step g, h.bind.imp fun y B2 H2 g2 h2 w hw => ?_⟩
  have d1 := (hv.go g2).dj' (fl := sfI F.O (.zip ma mb)) hs (by simp only [sfI, Bool.and_eq_true]; exact fun q => q.1)
  have d2 := hw.dj' (fl := sfI F.O (.zip ma mb)) hs2 (by simp only [sfI, Bool.and_eq_true]; exact fun q => q.2)
  rw [hK]
  cases x with
  | list ds =>
    cases y with
    | list es =>
      obtain ⟨a', xs, rfl, q, z, t⟩ := id d1.l
      obtain ⟨b', ys, rfl, q2, z2, t2⟩ := id d2.l
      refine ⟨a', b', xs, ys, rfl, .inl ⟨q.sq, q2.sq, h2 H2 ((I.step g).step g2).here _ _ (wk_zipL (by rw [← t.length]; exact z)) fun p hp => ?_⟩⟩
      rcases List.mem_cons.mp hp with hp | hp
      · rw [hp]; exact d1
      · rw [List.mem_singleton.mp hp]; exact d2
    | _ => exact False.elim h2
  | tuple ds =>
    cases y with
    | tuple es =>
      obtain ⟨a', xs, rfl, q, z, t⟩ := id d1.t
      obtain ⟨b', ys, rfl, q2, z2, t2⟩ := id d2.t
      refine ⟨a', b', xs, ys, rfl, .inr ⟨q, q2, h2 H2 ((I.step g).step g2).here _ _ (wk_zipT (by rw [← t.length]; exact z)) fun p hp => ?_⟩⟩
      rcases List.mem_cons.mp hp with hp | hp
      · rw [hp]; exact d1
      · rw [List.mem_singleton.mp hp]; exact d2
    | _ => exact False.elim h2
  | _ => exact False.elim h2
theorem i_enum {elts : List Expr} {kk : Nat} {tpos : Pos} (hK : X.K = F.K) (hg : Gl X "enumerate") (hm : X.mg "enumerate" = none) (hs : ss F.O ma = true) (ha : PE X a (tD F W ma)) (hp : plainE a = true) :
    PI X (.Tuple elts kk tpos) (.Call (.Name "enumerate" p) [a] [] pos) (iD F W (.enum ma)) := by
  refine (pi_enA hg hm (pa_1 ha hp) (star_plain hp)).imp fun σ H R ⟨e, B, I, A⟩ => ?_
  simp only [evi] at A
  refine ⟨e, B, I, A.bind.imp fun x B1 H1 g h v hv => ?_⟩
  have d1 := hv.dj' (fl := sfI F.O (.enum ma)) hs (by simp only [sfI]; exact fun q => q)
  rw [hK]
  cases x with
  | list ds =>
    obtain ⟨a', xs, rfl, q, z, t⟩ := id d1.l
    exact ⟨a', xs, rfl, .inl ⟨q.sq, h H1 (I.step g).here _ _ (wk_enumL (by rw [← t.length]; exact z)) fun p hp => by rw [List.mem_singleton.mp hp]; exact d1⟩⟩
  | tuple ds =>
    obtain ⟨a', xs, rfl, q, z, t⟩ := id d1.t
    exact ⟨a', xs, rfl, .inr ⟨q, h H1 (I.step g).here _ _ (wk_enumT (by rw [← t.length]; exact z)) fun p hp => by rw [List.mem_singleton.mp hp]; exact d1⟩⟩
  | _ => exact False.elim h
end
end PD
set_option linter.all false
set_option maxRecDepth 100000
set_option maxHeartbeats 1000000
/-! Comprehensions. -/
namespace PD
open PySem PySem.Spec PyProof.Rows L2
/-- the list D counts as one that does not lie within -/
def Fx.with (F : Fx) (D : Addr) : Fx := { F with A0 := fun a => F.A0 a ∨ a = D }
section
variable {F : Fx} {W : Nat → Hp → Prop} {σ σ' : Slots} {H H1 H2 H' : Hp} {e e' : SEnv} {B B1 B2 B' : Bg} {D : Addr}
theorem with_av {a : Addr} : Av (F.with D) σ e a ↔ Av F σ e a ∨ a = D := by
  constructor
  · rintro ((h | h) | h)
    · exact .inl (.inl h)
    · exact .inr h
    · exact .inl (.inr h)
  · rintro ((h | h) | h)
    · exact .inl (.inl h)
    · exact .inr h
    · exact .inl (.inr h)
theorem with_pr {b : Bool} {a : Addr} : Pr (F.with D) σ e b a ↔ Pr F σ e b a ∨ a = D := by
  cases b
  · show ((F.A0 a ∨ a = D) ∨ Bm σ e a) ↔ ((F.A0 a ∨ Bm σ e a) ∨ a = D)
    constructor
    · rintro ((h | h) | h)
      · exact .inl (.inl h)
      · exact .inr h
      · exact .inl (.inr h)
    · rintro ((h | h) | h)
      · exact .inl (.inl h)
      · exact .inr h
      · exact .inl (.inr h)
  · exact with_av
theorem new_thru {K : PySem.W.Frag} {A : Addr → Prop} (h : H D = none) : Thru K H (upd H D (.lst [])) A (fun a => A a ∨ a = D) := by
  refine ⟨fun a xs q => ?_, fun a xs q => (Thru.same (K := K) (A := A) (same_new h)).t a xs q⟩
  rcases q with q | ⟨o, q⟩ | q
  · exact .inl ⟨same_new h _ _ q.1, fun z => z.elim q.2 fun z => by rw [z, h] at q; cases q.1⟩
  · exact .inr (.inl ⟨o, same_new h _ _ q⟩)
  · exact .inr (.inr q)
theorem SI.with (I : SI F σ H e B) (h : H D = none) : SI (F.with D) σ (upd H D (.lst [])) e B := by
  have th : Thru F.K H (upd H D (.lst [])) (Av F σ e) (Av (F.with D) σ e) := by
    have t := new_thru (K := F.K) (A := Av F σ e) h
    exact ⟨fun a xs q => (t.l a xs q).less fun a q => with_av.mp q, t.t⟩
  have ne : ∀ {a : Addr} {o : HO}, H a = some o → a ≠ D := fun q z => by rw [z, h] at q; cases q
  refine ⟨I.len, I.ext.trans (.same (same_new h)), I.tabs.ext (same_new h), fun a q => ?_, fun i d q => ?_, fun i ds q => ?_, fun i q => ?_, I.inj, I.one, I.b0, fun p hp => (I.kp p hp).thru th th, fun i kvs q => ?_, fun i a fs q => ?_⟩
  · rcases q with q | q
    · obtain ⟨o, h1, h2⟩ := I.dom' a q
      exact ⟨o, same_new h _ _ h1, h2⟩
    · rw [q]; exact ⟨_, upd_same, fun ps z => by cases z⟩
  · obtain ⟨v, e1, h1⟩ := I.val i d q
    exact ⟨v, e1, Dv.thru th d h1⟩
  · obtain ⟨h0, a, xs, e1, e2, e3, e4, e5, e6⟩ := I.own i ds q
    refine ⟨h0, a, xs, e1, same_new h _ _ e2, e3, DvAll.thru th ds e4, e5, ?_⟩
    rintro ((z | z) | z)
    · exact e6 (.inl z)
    · exact ne e2 z
    · exact e6 (.inr z)
  · obtain ⟨h0, b, e1, e2, e3⟩ := I.bag i q
    exact ⟨h0, b, e1, same_new h _ _ e2, e3⟩
  · obtain ⟨h0, a, xs, e1, e2, e3, e4, e5, e6, e7⟩ := I.dic i kvs q
    exact ⟨h0, a, xs, e1, same_new h _ _ e2, e3, e4.thru th, e5.thru th.t, e6, e7⟩
  · obtain ⟨h0, e1, e2⟩ := I.ins i a fs q
    exact ⟨h0, e1, e2.thru th fun C dx gs q => same_new h _ _ q⟩
/-- a list that does not lie within is written -/
theorem SI.updA (I : SI F σ H e B) {acc zs : List V} (hD : H D = some (.lst acc)) (hA : F.A0 D) (hn : Nw F.H0 D) (hb : ¬ Bm σ e D) : SI F σ (upd H D (.lst zs)) e B := by
  have x : Ext F.T (fun a => a = D) H (upd H D (.lst zs)) := .lst hD rfl
  have th : Thru F.K H (upd H D (.lst zs)) (Av F σ e) (Av F σ e) := x.thru fun a q => by rw [q]; exact .inl hA
  have ne : ∀ {a : Addr}, ¬ a = D → (upd H D (.lst zs)) a = H a := fun n => upd_ne n
  refine ⟨I.len, ⟨fun a o h n t => ?_, fun a xs h => x.tups a xs (I.ext.tups a xs h), fun a o u h => x.frzs a o u (I.ext.frzs a o u h), fun h => x.tabs (I.ext.tabs h)⟩, x.tabs I.tabs, fun a q => ?_, fun i d q => ?_, fun i ds q => ?_, fun i q => ?_, I.inj, I.one, I.b0, fun p hp => (I.kp p hp).thru th th, fun i kvs q => ?_, fun i a fs q => ?_⟩
  · have n' : ¬ a = D := fun z => by rw [z] at h; exact hn.no h t
    rw [ne n']
    exact I.ext.keep a o h n t
  · by_cases n : a = D
    · rw [n]; exact ⟨_, upd_same, fun ps z => by cases z⟩
    · obtain ⟨o, h1, h2⟩ := I.dom' a q
      exact ⟨o, by rw [ne n]; exact h1, h2⟩
  · obtain ⟨v, e1, h1⟩ := I.val i d q
    exact ⟨v, e1, Dv.thru th d h1⟩
  · obtain ⟨h0, a, xs, e1, e2, e3, e4, e5, e6⟩ := I.own i ds q
    have n : ¬ a = D := fun z => e6 (.inl (by rw [z]; exact hA))
    exact ⟨h0, a, xs, e1, by rw [ne n]; exact e2, e3, DvAll.thru th ds e4, e5, e6⟩
  · obtain ⟨h0, b, e1, e2, e3⟩ := I.bag i q
    have n : ¬ b = D := fun z => hb (by rw [← z]; exact ⟨i, q, e1⟩)
    exact ⟨h0, b, e1, by rw [ne n]; exact e2, e3⟩
  · obtain ⟨h0, a, xs, e1, e2, e3, e4, e5, e6, e7⟩ := I.dic i kvs q
    have n : ¬ a = D := fun z => by rw [z, hD] at e2; exact DictO.nl (Option.some.inj e2).symm
    exact ⟨h0, a, xs, e1, by rw [ne n]; exact e2, e3, e4.thru th, e5.thru th.t, e6, e7⟩
  · obtain ⟨h0, e1, e2⟩ := I.ins i a fs q
    exact ⟨h0, e1, e2.thru th fun C dx gs q => by
      have n : ¬ a = D := fun z => by rw [z, hD] at q; cases q
      rw [ne n]; exact q⟩
/-- a test of a comprehension -/
def tC (F : Fx) (W : Nat → Hp → Prop) (mo : MO) : TT := fun σ H Q => ∃ e B, SI F σ H e B ∧ After F W σ H e (evc F.Γ mo e B) fun b _ H' => Q b H'
theorem c_no {X : Cx} : PTs X [] (tC F W .no) := ⟨fun pins s σ H Q I ⟨e, B, I', A⟩ => pts_nil.run pins s σ H Q I (by simp only [evc] at A; exact A H I'.here)⟩
theorem c_so {X : Cx} {c : Expr} {m : ME} (hc : PT X c (tT F W m)) : PTs X [c] (tC F W (.so m)) := ⟨fun pins s σ H Q I ⟨e, B, I', A⟩ => (pts_one hc).run pins s σ H Q I (by
  simp only [evc] at A
  refine ⟨e, B, I', A.bind.imp fun d B1 H1 g h => ?_⟩
  cases d with
  | bool k => exact ⟨k, rfl, h H1 (I'.step g).here⟩
  | _ => exact False.elim h)⟩
theorem After.ok {α : Type} {x : M α} {a : α} {P : α → Bg → Hp → Prop} (h : x = .ok (a, B')) (k : ∀ H', Go F σ H e B' H' → P a B' H') : After F W σ H e x P := by
  rw [h]; exact k
theorem quiet_ok {α : Type} {x : R α} {a : α} (h : R.quiet x = .ok a) : x = .ok a := by
  cases x with
  | ok b => exact h
  | stuck => cases h
  | err c => cases h
end
def compF (Γ : Tab) (elt : ME) (t : Tgt) (c : MO) (vs : List Nat) (σ : SEnv) (d : D) (B : Bg) : M (Option D) := match bindT t d (wipeE σ vs) with
  | none => .stuck
  | some τ => R.quiet ((evc Γ c τ B).bind fun ok B => match ok with
    | true => (ev Γ elt τ B).bind fun x B => .ok (some x, B)
    | false => .ok (none, B))
theorem compF_err {Γ : Tab} {elt : ME} {t : Tgt} {c : MO} {vs : List Nat} {σ : SEnv} {d : D} {B : Bg} {n : Nat} : compF Γ elt t c vs σ d B ≠ .err n := by
  unfold compF
  split
  · exact fun h => nomatch h
  · generalize (evc Γ c _ B).bind _ = z
    cases z <;> exact fun h => nomatch h
theorem compL_err {f : D → Bg → M (Option D)} (hf : ∀ d B n, f d B ≠ .err n) {n : Nat} : ∀ {ds : List D} {B : Bg}, compL f ds B ≠ .err n
  | [], B, h => nomatch h
  | d :: ds, B, h => by
    simp only [compL] at h
    cases q : f d B with
    | stuck => rw [q] at h; cases h
    | err c => exact hf d B c q
    | ok p =>
      obtain ⟨o, B1⟩ := p
      rw [q] at h
      have h : (compL f ds B1).bind _ = R.err n := h
      cases q2 : compL f ds B1 with
      | stuck => rw [q2] at h; cases h
      | err c => exact compL_err hf q2
      | ok p =>
        rw [q2] at h
        have h : (match o with | some x => R.ok (x :: p.1, p.2) | none => R.ok (p.1, p.2)) = R.err n := h
        cases o <;> cases h
section
variable {X : Cx} {F : Fx} {W : Nat → Hp → Prop} {pos : Pos} {elt tg iter : Expr} {me : ME} {t : Tgt} {mi : MI} {mc : MO} {ifs : List Expr} {scope : Scope} {own : List (Str × Nat)}
theorem comp_read (hO : ∀ p ∈ own, p.2 ∉ F.O) (hidx : ∀ j ∈ t.idx, j ∈ own.map (·.2)) {σ : Slots} {H : Hp} {Q : VK} (h : tF F W (.comp me t mi mc (own.map (·.2))) σ H Q) :
    tLc (iD F W mi) (fun v σ H K => ∃ D, gD (F.with D) t v σ H K) (fun σ H Q => ∃ D, tC (F.with D) (fun _ _ => False) mc σ H Q) (fun σ H Q => ∃ D, tD (F.with D) (fun _ _ => False) me σ H Q) (own.map (·.2)) σ H Q := by
  obtain ⟨e, B, I, A⟩ := h
  simp only [ev] at A
  refine ⟨e, B, I, A.bind.imp fun ds B1 H1 g1 h J kp wk hkp D hD => ?_⟩
  have I1 := I.step g1
  have hvs : ∀ i ∈ own.map (·.2), i ∉ F.O := fun i hi => by
    obtain ⟨p, hp, rfl⟩ := List.mem_map.mp hi
    exact hO p hp
  generalize hvv : own.map (·.2) = vs at *
  -- what the evaluator says
  have h : After F W σ H1 e ((compL (compF F.Γ me t mc vs e) ds B1).bind fun r B => .ok (.list r, B)) fun d _ H' => ∀ v, Rs F (.comp me t mi mc vs) σ e H' d v → ((∃ ds, d = .list ds) → Frs F.K (Pr F σ e (ss F.O (.comp me t mi mc vs))) H H' d v) → Q v H' := h
  cases hc0 : compL (compF F.Γ me t mc vs e) ds B1 with
  | stuck => rw [hc0] at h; exact h.elim
  | err n => exact absurd hc0 (compL_err fun d B n => compF_err)
  | ok pr =>
    obtain ⟨rall, Bend⟩ := pr
    rw [hc0] at h
    have h : ∀ H', Go F σ H1 e Bend H' → ∀ v, Rs F (.comp me t mi mc vs) σ e H' (.list rall) v → ((∃ ds, PyData.list rall = .list ds) → Frs F.K (Pr F σ e (sf F.O me)) H H' (.list rall) v) → Q v H' := h
    have nwD : Nw H1 D := .of hD
    have nD : ¬ Av F σ e D := I1.nAv nwD
    have nB : ¬ Bm σ e D := fun z => nD z.av
    have J0 : SI (F.with D) (wipe σ vs) (upd H1 D (.lst [])) (wipeE e vs) B1 := (I1.with hD).wipe hvs
    have al : Alike F.O σ (wipe σ vs) e (wipeE e vs) := ⟨fun i hi => ⟨wipe_out fun z => hvs i z hi, wipeE_out fun z => hvs i z hi⟩⟩
    have bmw : ∀ a, Bm (wipe σ vs) (wipeE e vs) a ↔ Bm σ e a := fun a => al.bm (F := F.with D) (I1.with hD) J0 a
    have prw : ∀ b a, Pr (F.with D) (wipe σ vs) (wipeE e vs) b a ↔ Pr F σ e b a ∨ a = D := fun b a => (al.pr (F := F.with D) (I1.with hD) J0 b a).trans with_pr
    have avw : ∀ a, Av (F.with D) (wipe σ vs) (wipeE e vs) a ↔ Av F σ e a ∨ a = D := fun a => prw true a
    -- what is walked over stands
    let M : Addr → Prop := fun a => Bm σ e a ∨ a = D
    let A' : Addr → Prop := fun a => Av F σ e a ∨ a = D
    have kp0 : ∀ p ∈ kp, Dj F.K (upd H1 D (.lst [])) M A' p.1 p.2 := fun p hp => by
      refine (hkp p hp).thru ?_ (new_thru hD)
      have t1 := new_thru (K := F.K) (A := Pr F σ e (sfI F.O mi)) hD
      exact ⟨fun a xs q => (t1.l a xs q).less fun a z => z.imp (fun z => z.pr) id, t1.t⟩
    have walk : Walk J ds.length (fun H' => ∀ p ∈ kp, Dj F.K H' M A' p.1 p.2) (fun i H' x H'' => Same H' H'' ∧ ∃ d, ds[i]? = some d ∧ Dv F.K H'' A' d x) :=
      ⟨fun i H' hi q => wk.go i H' M A' hi q, fun H' q => wk.stop H' M A' q, fun i H' x H'' hi q y => wk.yld i H' M A' x H'' hi q y⟩
    refine lc_it (g := fun v σ H K => ∃ D, gD (F.with D) t v σ H K) (tt := fun σ H Q => ∃ D, tC (F.with D) (fun _ _ => False) mc σ H Q) (te := fun σ H Q => ∃ D, tD (F.with D) (fun _ _ => False) me σ H Q) (vs := vs) (σ := σ) (H1 := H1) (D := D) (Qd := fun H' => Q (.ref D) H') walk (fun i H' => ∃ (r rest : List PyData) (acc : List V) (Bi : Bg), compL (compF F.Γ me t mc vs e) (ds.drop i) Bi = .ok (rest, Bend) ∧ r ++ rest = rall ∧ Ext F.T M (upd H1 D (.lst [])) H' ∧
      SI (F.with D) (wipe σ vs) H' (wipeE e vs) Bi ∧ H' D = some (.lst acc) ∧ acc.length ≤ i ∧ DvAll F.K H' (Pr (F.with D) (wipe σ vs) (wipeE e vs) (sf F.O me)) r acc)
      ⟨[], rall, [], B1, hc0, rfl, .refl, J0, upd_same, Nat.le_refl _, .nil⟩ (fun i H' _ ⟨_, _, _, _, _, _, x, _⟩ p hp => (kp0 p hp).thru (x.thru fun _ z => z) (x.thru fun a z => z.imp (fun z => z.av) id)) ?_ ?_
    · rintro i x H2 H3 hi ⟨r, rest, acc, Bi, hcl, hr, x2, I2, hacc, hlen, hda⟩ ⟨sm, d, hd, hx⟩
      refine ⟨D, ?_⟩
      have hdrop : ds.drop i = d :: ds.drop (i + 1) := by
        rw [List.drop_eq_getElem_cons hi]
        rw [List.getElem?_eq_getElem hi] at hd
        rw [Option.some.inj hd]
      rw [hdrop] at hcl
      simp only [compL] at hcl
      obtain ⟨o, B2, hf, hcl⟩ := PD.M.bind_ok hcl
      obtain ⟨rest2, B3, hcl, hend⟩ := PD.M.bind_ok hcl
      unfold compF at hf
      cases hb : bindT t d (wipeE e vs) with
      | none => rw [hb] at hf; cases hf
      | some τ =>
        rw [hb] at hf
        have hf := quiet_ok hf
        obtain ⟨b, Bc, hcc, hf⟩ := PD.M.bind_ok hf
        have I3 := I2.step (I2.here.same sm)
        refine ⟨wipeE e vs, Bi, d, τ, I3, hx.less fun a q => (avw a).mp q, hb, fun σ2 J3 al2 hl2 hj2 => ?_⟩
        have hwipe : wipe σ2 vs = wipe σ vs := by
          apply List.ext_getElem?
          intro j
          by_cases hj : j ∈ vs
          · have l1 : ∀ (τ : Slots) , (wipe τ vs)[j]? = if j < τ.length then some none else none := fun τ => by
              by_cases hlt : j < τ.length
              · rw [if_pos hlt]
                have hlt' : j < (wipe τ vs).length := by rw [wipe_length]; exact hlt
                rw [List.getElem?_eq_getElem hlt']
                cases hz : (wipe τ vs)[j] with
                | none => rfl
                | some y =>
                  obtain ⟨_, z⟩ := wipe_some (σ := τ) (i := j) (vs := vs) (x := y) (by rw [List.getElem?_eq_getElem hlt', hz])
                  exact absurd hj z
              · rw [if_neg hlt, List.getElem?_eq_none (by rw [wipe_length]; omega)]
            rw [l1, l1, hl2, wipe_length]
          · rw [wipe_out hj, wipe_out hj, hj2 j fun z => hj (hidx j z), wipe_out hj]
        refine ⟨hwipe, D, τ, Bi, J3, .ok hcc fun H4 g4 => ?_⟩
        have J4 := J3.step g4
        have G4 : Go (F.with D) (wipe σ vs) H3 (wipeE e vs) Bc H4 := al2.go I3 J3 g4
        have I4 := I3.step G4
        have x4 : Ext F.T M (upd H1 D (.lst [])) H4 := (x2.trans (.same sm)).trans (G4.ext.mono fun a z => .inl ((bmw a).mp z))
        have hacc4 : H4 D = some (.lst acc) := G4.ext.keep D _ (sm D _ hacc) (fun z => nB ((bmw D).mp z)) (fun ps z => by cases z)
        have hda4 : DvAll F.K H4 (Pr (F.with D) (wipe σ vs) (wipeE e vs) (sf F.O me)) r acc := DvAll.thru G4.thru r (hda.same sm)
        cases b with
        | false =>
          refine ite_ff ?_
          cases hf
          cases hend
          exact ⟨r, _, acc, _, hcl, hr, x4, I4, hacc4, by omega, hda4⟩
        | true =>
          obtain ⟨y, By, hy, hf⟩ := PD.M.bind_ok hf
          cases hf
          cases hend
          refine ite_tt ⟨D, τ, Bc, J4, .ok hy fun H5 g5 v hv => ?_⟩
          have J5 := J4.step g5
          have G5 : Go (F.with D) (wipe σ vs) H4 (wipeE e vs) _ H5 := al2.go I3 J4 g5
          have I5 := I4.step G5
          have x5 : Ext F.T M (upd H1 D (.lst [])) H5 := x4.trans (G5.ext.mono fun a z => .inl ((bmw a).mp z))
          have hacc5 : H5 D = some (.lst acc) := G5.ext.keep D _ hacc4 (fun z => nB ((bmw D).mp z)) (fun ps z => by cases z)
          have hda5 : DvAll F.K H5 (Pr (F.with D) (wipe σ vs) (wipeE e vs) (sf F.O me)) r acc := DvAll.thru G5.thru r hda4
          have hv5 : Dv F.K H5 (Pr (F.with D) (wipe σ vs) (wipeE e vs) (sf F.O me)) y v := hv.dv.less fun a z => (al2.pr I3 J3 _ a).mpr z
          have xu : Ext F.T (fun a => a = D) H5 (upd H5 D (.lst (acc ++ [v]))) := .lst hacc5 rfl
          have pD : Pr (F.with D) (wipe σ vs) (wipeE e vs) (sf F.O me) D := (prw _ D).mpr (.inr rfl)
          refine ⟨acc, hacc5, by have := wk.len; omega, r ++ [y], rest2, acc ++ [v], _, hcl, by rw [List.append_assoc]; exact hr, x5.trans (xu.mono fun a z => .inr z), I5.updA hacc5 (.inr rfl) (I1.nw nwD) (fun z => nB ((bmw D).mp z)), upd_same, by rw [List.length_append]; simp; omega, ?_⟩
          exact DvAll.thru (xu.thru fun a z => by rw [z]; exact pD) _ (hda5.append (.cons hv5 .nil))
    · rintro H2 ⟨r, rest, acc, Bi, hcl, hr, x2, I2, hacc, hlen, hda⟩
      rw [List.drop_length] at hcl
      simp only [compL] at hcl
      cases hcl
      rw [List.append_nil] at hr
      subst hr
      have x3 : Ext F.T (Bm σ e) H1 H2 := by
        have ne : ∀ {a : Addr} {o : HO}, H1 a = some o → ¬ a = D := fun q z => by rw [z, hD] at q; cases q
        exact ⟨fun a o q n t => x2.keep a o (same_new hD _ _ q) (fun z => z.elim n (ne q)) t, fun a xs q => x2.tups a xs (same_new hD _ _ q), fun a o u q => x2.frzs a o u (same_new hD _ _ q), fun q => x2.tabs (q.ext (same_new hD))⟩
      have G : Go F σ H1 e Bend H2 := ⟨x3, fun i b h1 h2 => by
        have hi := (I1.bag i h1).1
        obtain ⟨_, b', e1, e2, _⟩ := I2.bag i (by rw [(al.l i hi).2]; exact h1)
        rw [(al.l i hi).1, h2] at e1
        cases e1
        exact e2⟩
      have hz : acc.length ≤ sizeLine := Nat.le_trans hlen wk.len
      have hda2 : DvAll F.K H2 (fun a => Pr F σ e (sf F.O me) a ∨ a = D) r acc := hda.less fun a z => (prw _ a).mpr z
      have hda' : DvAll F.K H2 (Pr F σ e (sf F.O me)) r acc := hda2.less fun a z => .inl z
      exact h H2 G (.ref D) (.mk' (b := sf F.O me) (by simp only [sf]) (by simp only [ss]) (.mkL (SqL.of hacc) (fun z => nD z.av) hz hda')) fun _ => ⟨r, D, acc, rfl, rfl, hacc, hz, Go.nw I g1 nwD, hda2⟩
theorem d_comp (hc : X.calm = true) (hN : X.N.Nodup) (hi : PI X tg iter (iD F W mi)) (ok : BlkOk X.N X.env.scope scope own) (hO : ∀ p ∈ own, p.2 ∉ F.O) (hidx : ∀ j ∈ t.idx, j ∈ own.map (·.2))
    (hg : ∀ (D : Addr) (s : Shared) (H : Hp) (C : Addr) (cl : List (Str × Addr)) (fp : List Addr), PG (X.blk s H scope (compEnvC scope cl C X.env) fp) tg (gD (F.with D) t))
    (ht : ∀ (D : Addr) (s : Shared) (H : Hp) (C : Addr) (cl : List (Str × Addr)) (fp : List Addr), PTs (X.blk s H scope (compEnvC scope cl C X.env) fp) ifs (tC (F.with D) (fun _ _ => False) mc))
    (he : ∀ (D : Addr) (s : Shared) (H : Hp) (C : Addr) (cl : List (Str × Addr)) (fp : List Addr), PE (X.blk s H scope (compEnvC scope cl C X.env) fp) elt (tD (F.with D) (fun _ _ => False) me))
    (hs : ∀ x, foldedSetIterable iter X.env x = pure x) :
    PE X (.ListComp elt [⟨tg, iter, ifs, 0⟩] scope pos) (tF F W (.comp me t mi mc (own.map (·.2)))) :=
  (pe_lc (g := fun v σ H K => ∃ D, gD (F.with D) t v σ H K) (tt := fun σ H Q => ∃ D, tC (F.with D) (fun _ _ => False) mc σ H Q) (te := fun σ H Q => ∃ D, tD (F.with D) (fun _ _ => False) me σ H Q) hc hN hi ok
    (fun s H C cl fp => ⟨fun pins s' σ H v u Q I r ⟨D, q⟩ => (hg D s _ C cl fp).run pins s' σ H v u Q I r q⟩)
    (fun s H C cl fp => ⟨fun pins s' σ H Q I ⟨D, q⟩ => (ht D s _ C cl fp).run pins s' σ H Q I q⟩)
    (fun s H C cl fp => ⟨fun pins s' σ H Q I ⟨D, q⟩ => (he D s _ C cl fp).run pins s' σ H Q I q⟩) hs).imp fun _ _ _ h => comp_read hO hidx h
/-- name = [..] on one line, the name a plain local -/
theorem s_comp {i : Nat} {y : Str} {py spos : Pos} (hc : X.calm = true) (hN : X.N.Nodup) (hy : X.N[i]? = some y) (hyl : X.env.scope.names.lookup y = some .local) (hsw : swapsWith (.ListComp elt [⟨tg, iter, ifs, 0⟩] scope pos) (some (.Name y py)) spos.line X.env = pure true)
    (hi : PI X tg iter (iD F W mi)) (ok : BlkOk X.N X.env.scope scope own) (hO : ∀ p ∈ own, p.2 ∉ F.O) (hidx : ∀ j ∈ t.idx, j ∈ own.map (·.2))
    (hg : ∀ (D : Addr) (s : Shared) (H : Hp) (C : Addr) (cl : List (Str × Addr)) (fp : List Addr), PG (X.blk s H scope (compEnvC scope cl C X.env) fp) tg (gD (F.with D) t))
    (ht : ∀ (D : Addr) (s : Shared) (H : Hp) (C : Addr) (cl : List (Str × Addr)) (fp : List Addr), PTs (X.blk s H scope (compEnvC scope cl C X.env) fp) ifs (tC (F.with D) (fun _ _ => False) mc))
    (he : ∀ (D : Addr) (s : Shared) (H : Hp) (C : Addr) (cl : List (Str × Addr)) (fp : List Addr), PE (X.blk s H scope (compEnvC scope cl C X.env) fp) elt (tD (F.with D) (fun _ _ => False) me))
    (hs : ∀ x, foldedSetIterable iter X.env x = pure x) :
    PS X (.Assign [.Name y py] (.ListComp elt [⟨tg, iter, ifs, 0⟩] scope pos) spos) (tAsg (tF F W (.comp me t mi mc (own.map (·.2)))) (gName i)) :=
  (ps_setLc (g := fun v σ H K => ∃ D, gD (F.with D) t v σ H K) (tt := fun σ H Q => ∃ D, tC (F.with D) (fun _ _ => False) mc σ H Q) (te := fun σ H Q => ∃ D, tD (F.with D) (fun _ _ => False) me σ H Q) hc hN hy hyl hsw hi ok
    (fun s H C cl fp => ⟨fun pins s' σ H v u Q I r ⟨D, q⟩ => (hg D s _ C cl fp).run pins s' σ H v u Q I r q⟩)
    (fun s H C cl fp => ⟨fun pins s' σ H Q I ⟨D, q⟩ => (ht D s _ C cl fp).run pins s' σ H Q I q⟩)
    (fun s H C cl fp => ⟨fun pins s' σ H Q I ⟨D, q⟩ => (he D s _ C cl fp).run pins s' σ H Q I q⟩) hs).imp fun _ _ _ h => comp_read hO hidx h
end
end PD
set_option linter.all false
set_option maxRecDepth 100000
set_option maxHeartbeats 1000000
/-! New lists: displays, sums, list(x), sorted(x), xs * k; join, split. -/
namespace PD
open PySem PySem.Spec PyProof.Rows L2
/-- as Out, a list being new -/
def OutF (K : PySem.W.Frag) (A : Addr → Prop) (H : Hp) (d : D) (Q : VK) : Prop := ∀ v H', Same H H' → Dv K H' A d v → ((∃ ds, d = .list ds) → Frs K A H H' d v) → Q v H'
theorem OutF.out {K : PySem.W.Frag} {A : Addr → Prop} {H : Hp} {d : D} {Q : VK} (q : OutF K A H d Q) (n : ∀ ds, d ≠ .list ds) : Out K A H d Q := fun v H' s h => q v H' s h fun ⟨ds, e⟩ => absurd e (n ds)
theorem new_thru' {K : PySem.W.Frag} {A : Addr → Prop} {H : Hp} {p : Addr} {o : HO} (h : H p = none) : Thru K H (upd H p o) A (fun a => A a ∨ a = p) := by
  refine ⟨fun a xs q => ?_, fun a xs q => (Thru.same (K := K) (A := A) (same_new h)).t a xs q⟩
  rcases q with q | ⟨o, q⟩ | q
  · exact .inl ⟨same_new h _ _ q.1, fun z => z.elim q.2 fun z => by rw [z, h] at q; cases q.1⟩
  · exact .inr (.inl ⟨o, same_new h _ _ q⟩)
  · exact .inr (.inr q)
theorem OutF.lst {K : PySem.W.Frag} {A : Addr → Prop} {H : Hp} {ds : List D} {Q : VK} {p : Addr} {xs : List V} (q : OutF K A H (.list ds) Q) (dA : Dom A H) (h : H p = none) (z : xs.length ≤ sizeLine) (t : DvAll K H A ds xs) : Q (.ref p) (upd H p (.lst xs)) :=
  q _ _ (same_new h) (.newL dA h z t) fun _ => ⟨ds, p, xs, rfl, rfl, upd_same, z, .of h, DvAll.thru (new_thru' h) ds t⟩
def rF1 (K : PySem.W.Frag) (f : D → Option D) : List V → Hp → VK → Prop := fun vs H Q => ∃ x, vs = [x] ∧ ∃ A dx d, Dom A H ∧ Di K H A dx x ∧ f dx = some d ∧ OutF K A H d Q
def rF2 (K : PySem.W.Frag) (f : D → D → Option D) : R2 := fun x y H Q => ∃ A dx dy d, Dom A H ∧ Di K H A dx x ∧ Di K H A dy y ∧ f dx dy = some d ∧ OutF K A H d Q
section
variable {X : Cx}
theorem op_addF : OpR X (binaryOp .Add) (rF2 X.K (binD .add)) := by
  intro pins s σ H x y v u Q I rx ry ⟨A, dx, dy, d, dA, hx, hy, hf, q⟩
  by_cases hl : ∃ xs ys, dx = .list xs ∧ dy = .list ys
  · obtain ⟨ds, es, rfl, rfl⟩ := hl
    simp only [binD] at hf
    split at hf
    · rename_i hz
      cases hf
      obtain ⟨a, xs, rfl, h1, z1, t1⟩ := hx.l
      obtain ⟨b, ys, rfl, h2, z2, t2⟩ := hy.l
      have hz' : xs.length + ys.length ≤ sizeLine := by rw [t1.length, t2.length]; exact hz
      exact op_catS pins s σ H _ _ v u Q I rx ry ⟨a, b, xs, ys, rfl, rfl, h1, h2, hz', fun p hp => q.lst dA hp (by rw [List.length_append]; exact hz') (t1.append t2)⟩
    · cases hf
  · refine op_binD .add pins s σ H x y v u Q I rx ry ⟨A, dx, dy, d, dA, hx, hy, hf, q.out fun ds e => hl ?_⟩
    subst e
    cases dx <;> cases dy <;> simp only [binD] at hf <;> try (cases hf; done)
    · split at hf <;> cases hf
    · exact ⟨_, _, rfl, rfl⟩
    · split at hf <;> cases hf
theorem call_listF : CallR X (.type "list") (rF1 X.K (bltD .list)) := by
  intro pins s σ H vs us Q I r ⟨x, e, A, dx, d, dA, hx, hf, q⟩
  subst e
  cases dx <;> simp only [bltD] at hf <;> try (cases hf; done)
  · cases hf
    obtain ⟨a, xs, rfl, h1, z1, t1⟩ := hx.l
    exact call_list_of pins s σ H _ us Q I r ⟨a, xs, rfl, .inl h1, fun p hp => q.lst dA hp z1 t1⟩
  · cases hf
    obtain ⟨a, xs, rfl, h1, z1, t1⟩ := hx.t
    exact call_list_of pins s σ H _ us Q I r ⟨a, xs, rfl, .inr h1, fun p hp => q.lst dA hp z1 t1⟩
end
section
variable {X : Cx} {F : Fx} {W : Nat → Hp → Prop} {pos p p2 : Pos} {a b c : Expr} {ma mb mc m : ME} {ms : MEs} {es : List Expr} {σ : Slots} {H H1 H' : Hp} {e : SEnv} {B B1 B' : Bg}
theorem outF_of {m : ME} {d : D} {Q : VK} {b : Bool} (I0 : SI F σ H e B) (g0 : Go F σ H e B1 H1) (e1 : sf F.O m = b) (e2 : ss F.O m = b)
    (h : ∀ H', Go F σ H1 e B1 H' → ∀ v, Rs F m σ e H' d v → ((∃ ds, d = .list ds) → Frs F.K (Pr F σ e (ss F.O m)) H H' d v) → Q v H') : OutF F.K (Pr F σ e b) H1 d Q :=
  fun v H' s hv fr => h H' ((I0.step g0).here.same s) v (.mk' e1 e2 hv) fun hl => by
    obtain ⟨ds, a, xs, q1, q2, q3, q4, q5, q6⟩ := fr hl
    exact ⟨ds, a, xs, q1, q2, q3, q4, Go.nw I0 g0 q5, by rw [e2]; exact q6⟩
theorem d_lstF (h : PA X es (tA F W ms)) (hn : ms.len ≤ 1000) : PE X (.List es pos) (tF F W (.lst ms)) := by
  refine (pe_lst (pa_len h)).imp fun σ H Q ⟨e, B, I, A⟩ => ?_
  simp only [ev] at A
  refine ⟨e, B, I, A.bind.imp fun ds B1 H1 g h vs hl hvs => ?_⟩
  have hl2 : vs.length ≤ sizeLine := by rw [hl, sizeLine_eq]; omega
  exact ⟨hl2, fun p hp => (outF_of (m := .lst ms) (b := sfs F.O ms) I g (by simp only [sf]) (by simp only [ss]) h).lst ((I.step g).domP _) hp hl2 hvs⟩
theorem d_tup' {k : Nat} (h : PA X es (tA F W ms)) (hn : ms.len ≤ 1000) : PE X (.Tuple es k pos) (tD F W (.tup ms)) := by
  refine (pe_tup (pa_len h)).imp fun σ H Q ⟨e, B, I, A⟩ => ?_
  simp only [ev] at A
  refine ⟨e, B, I, A.bind.imp fun ds B1 H1 g h vs hl hvs => ?_⟩
  have hl2 : vs.length ≤ sizeLine := by rw [hl, sizeLine_eq]; omega
  exact ⟨hl2, fun p hp => (out_of (m := .tup ms) (b := sfs F.O ms) (I.step g) (by simp only [sf]) (by simp only [ss]) h).tup hp hl2 hvs⟩
theorem d_addF (hK : X.K = F.K) (ha : PE X a (tD F W ma)) (hb : PE X b (tD F W mb)) : PE X (.BinOp a .Add b pos) (tF F W (.bin .add ma mb)) := by
  refine (pe_op op_addF ha hb).imp fun σ H Q ⟨e, B, I, A⟩ => ?_
  simp only [ev] at A
  refine ⟨e, B, I, A.bind.imp fun x B1 H1 g1 h1 v hv => ⟨e, B1, I.step g1, h1.bind.imp fun y B2 H2 g2 h2 w hw => ?_⟩⟩
  obtain ⟨d, hd, h⟩ := h2.ofO
  refine ⟨Pr F σ e (ss F.O ma && ss F.O mb), x, y, d, ((I.step g1).step g2).domP _, ?_, ?_, hd, ?_⟩
  · rw [hK]; exact (hv.go g2).ar fun h => by simp at h; exact h.1
  · rw [hK]; exact hw.ar fun h => by simp at h; exact h.2
  · rw [hK]; exact outF_of I (g1.trans g2) (by simp only [sf]) (by simp only [ss]) h
theorem d_listF {x : Str} (hK : X.K = F.K) (hg : Gl X x) (hm : X.mg x = none) (hv : bootBuiltins x = some (.type "list")) (ha : PE X a (tD F W ma)) (hp : plainE a = true) (hn : x ≠ "__name__") (hdb : (x == ("__debug__" : Str)) = false) :
    PE X (.Call (.Name x p) [a] [] pos) (tF F W (.blt .list ma)) := by
  refine (pe_callTy call_listF hg hm hv (pa_1 ha hp) hn hdb (star_plain hp)).imp fun σ H Q ⟨e, B, I, A⟩ => ?_
  simp only [ev] at A
  refine ⟨e, B, I, A.bind.imp fun x B1 H1 g1 h1 v hv => ?_⟩
  obtain ⟨d, hd, h⟩ := h1.ofO
  refine ⟨v, rfl, Pr F σ e (ss F.O ma), x, d, (I.step g1).domP _, ?_, hd, ?_⟩
  · rw [hK]; exact hv.di
  · rw [hK]; exact outF_of I g1 (by simp only [sf]) (by simp only [ss]) h
theorem After.on {α : Type} {x : M α} {P : α → Bg → Hp → Prop} (h : After F W σ H e x P) (g : Go F σ H e B H1) : After F W σ H1 e x P := by
  cases x with
  | stuck => exact h
  | err n => exact fun H' x => h H' (g.ext.trans x)
  | ok pr => exact fun H' g' => h H' (g.trans g')
/-- [..] * k -/
theorem d_lrepF (ha : PA X es (tA F W ms)) (hb : PE X b (tD F W mb)) (hn : ms.len ≤ 1000) : PE X (.BinOp (.List es p) .Mult b pos) (tF F W (.lrep ms mb)) := by
  -- the list within is tracked: it stands till it is multiplied
  have hl : PE X (.List es p) (fun σ H Q => ∃ e B, SI F σ H e B ∧ After F W σ H e (evs F.Γ ms e B) fun ds _ H1 => ∀ l xs H', Same H1 H' → H1 l = none → H' l = some (.lst xs) → DvAll F.K H' (Pr F σ e (sfs F.O ms)) ds xs → xs.length = ms.len → Q (.ref l) H') :=
    (pe_lst (pa_len ha)).imp fun σ H Q ⟨e, B, I, A⟩ => ⟨e, B, I, A.imp fun ds B1 H1 g h vs hl hvs => ⟨by rw [hl, sizeLine_eq]; omega, fun l hp => h l vs _ (same_new hp) hp upd_same (hvs.same (same_new hp)) hl⟩⟩
  refine (pe_op op_rep hl hb).imp fun σ H Q ⟨e, B, I, A⟩ => ?_
  simp only [ev] at A
  refine ⟨e, B, I, A.bind.imp fun ds B1 H1 g1 h1 l xs H1' sm hl hx hds hxl => ?_⟩
  have g1' := g1.same sm
  have I1 := I.step g1
  have h1 := (After.bind h1).on (I1.here.same sm)
  refine ⟨e, B1, I1.step (I1.here.same sm), h1.imp fun y B2 H2 g2 h2 w hw => ?_⟩
  have G2 := g1'.trans g2
  have I2 := I.step G2
  cases y with
  | int k =>
    simp only at h2
    split at h2
    · rename_i hk
      have nB : ¬ Bm σ e l := fun z => by
        obtain ⟨o, q, _⟩ := I1.domA l z.av
        rw [hl] at q; cases q
      have hx2 : H2 l = some (.lst xs) := g2.ext.keep l _ hx nB (fun ps z => by cases z)
      have hds2 : DvAll F.K H2 (Pr F σ e (sfs F.O ms)) ds xs := DvAll.thru g2.thru ds hds
      have hxn : xs.length ≤ 1000 := by rw [hds.length]; exact hk.2.2
      have a1 : xs.length * k.toNat ≤ 1000 * 1000 := Nat.mul_le_mul hxn (by omega)
      refine ⟨l, k, xs, rfl, hw.di.i, hx2, by omega, by omega, by rw [sizeLine_eq]; omega, fun p hp => ?_⟩
      refine (outF_of (m := .lrep ms mb) (b := sfs F.O ms) I G2 (by simp only [sf]) (by simp only [ss]) h2).lst (I2.domP _) hp ?_ (hds2.rep _)
      rw [PyProof.Rows.lm_len_rep_flat, sizeLine_eq, Nat.mul_comm]
      omega
    · exact h2.elim
  | _ => exact False.elim h2
/-! ### texts -/
theorem d_join {o : Expr} {mo : ME} {apos : Pos} (hK : X.K = F.K) (ho : PE X o (tD F W mo)) (ha : PE X a (tD F W ma)) (hp : plainE a = true) (hbase : attributeBase o "join" X.env (eval o X.env) = eval o X.env) (hline : (apos.endLine == pos.line) = true) :
    PE X (.Call (.Attribute o "join" apos) [a] [] pos) (tD F W (.join mo ma)) := by
  refine (pe_join ho ha (star_plain hp) hbase hline).imp fun σ H Q ⟨e, B, I, A⟩ => ?_
  simp only [ev] at A
  refine ⟨e, B, I, A.bind.imp fun x B1 H1 g1 h1 v hv => ?_⟩
  cases x with
  | str s =>
    refine ⟨⟨s, hv.di.s⟩, e, B1, I.step g1, (After.bind h1).imp fun y B2 H2 g2 h2 w hw => ?_⟩
    obtain ⟨d, hd, h⟩ := h2.ofO
    obtain ⟨ds, hy, hj⟩ := Option.bind_eq_some_iff.mp hd
    simp only [joinD, Option.bind_eq_some_iff] at hj
    obtain ⟨ys, hys, hj⟩ := hj
    split at hj
    · rename_i hz
      cases hj
      have fin := h H2 ((I.step g1).step g2).here (.str (Txt.join s ys)) (.ofV fun _ => .ofS _)
      cases y with
      | list ds' =>
        simp only [seqD] at hy
        cases hy
        obtain ⟨p', xs, rfl, q, z, t⟩ := hw.di.l
        refine ⟨s, p', ys, hv.di.s, rfl, .inl ?_, hz, fin⟩
        rw [hK, ← t.strs hys]; exact q
      | tuple ds' =>
        simp only [seqD] at hy
        cases hy
        obtain ⟨p', xs, rfl, q, z, t⟩ := hw.di.t
        refine ⟨s, p', ys, hv.di.s, rfl, .inr ?_, hz, fin⟩
        rw [hK, ← t.strs hys]; exact q
      | _ => simp only [seqD] at hy; cases hy
    · cases hj
  | _ => exact False.elim h1
theorem d_split {o : Expr} {mo : ME} {apos : Pos} (ho : PE X o (tD F W mo)) (ha : PE X a (tD F W ma)) (hp : plainE a = true) (hbase : attributeBase o "split" X.env (eval o X.env) = eval o X.env) (hline : (apos.endLine == pos.line) = true) :
    PE X (.Call (.Attribute o "split" apos) [a] [] pos) (tD F W (.split mo ma)) := by
  refine (pe_split ho ha (star_plain hp) hbase hline).imp fun σ H Q ⟨e, B, I, A⟩ => ?_
  simp only [ev] at A
  refine ⟨e, B, I, A.bind.imp fun x B1 H1 g1 h1 v hv => ?_⟩
  cases x with
  | str s =>
    refine ⟨⟨s, hv.di.s⟩, e, B1, I.step g1, (After.bind h1).imp fun y B2 H2 g2 h2 w hw => ?_⟩
    cases y with
    | str y =>
      simp only at h2
      split at h2
      · rename_i hz
        refine ⟨s, y, hv.di.s, by rw [hw.di.s], hz.1, hz.2.1, fun p' hp' => ?_⟩
        have z' : ((Txt.split s y).map V.str).length ≤ sizeLine := by rw [List.length_map]; exact hz.2.2
        exact (out_of (m := .split mo ma) (b := true) ((I.step g1).step g2) (by simp only [sf]) (by simp only [ss]) h2).lst (((I.step g1).step g2).domP _) hp' z' (.ofStrs _)
      · exact h2.elim
    | _ => exact False.elim h2
  | _ => exact False.elim h1
end
end PD
set_option linter.all false
set_option maxRecDepth 100000
set_option maxHeartbeats 4000000
/-! set(list of ints), sorted(set(list of ints)). -/
namespace PD
open PySem PySem.Spec PyProof.Rows L2
/-- an empty set's object -/
abbrev eSet (w : World) : Obj := { cls := .type "set", dict := none, data := .set #[] 0 (.fresh 0 0 (!w.params.followText "set-order")) }
section
variable {P : Program} {w : World} {A : Around} {E : Value → Shared → Prop} {s : Shared}
/-- what set(list) leaves -/
def Made (w : World) (s : Shared) (ns : List Int) (s₂ : Shared) : Prop := ∃ h' tk c, s₂ = { s with heap := h', toks := tk } ∧ SetR w h' s.heap.objs.size (fun j => decide (j ∈ ns)) c ∧ c ≤ ns.length ∧ ∀ b o, s.heap.get? b = some o → h'.get? b = some o
theorem fill_ints {a : Addr} {ys : Array Value} (ns : List Int) (hh : A.handled = none) (hl : s.heap.IsList a ys) (hi : IntsAre ys.toList ns) (hb : ns.length + 1 < scanBound)
    (ha : a < s.heap.objs.size) {q : Heap} (hq : q = (s.heap.push (eSet w)).push { cls := .type "list_iterator", data := .fields #[.ref a, .int 0 0] }) :
    codeAny (model P w) A (.builtin "set.update.loop" ⟨[.ref s.heap.objs.size, .ref (s.heap.objs.size + 1)], []⟩) (fun r s₂ => r = .ok (.ret .none) ∧ Made w s ns s₂) { s with heap := q } := by
  subst hq
  have z1 : (s.heap.push (eSet w)).objs.size = s.heap.objs.size + 1 := Heap.size_push ..
  have hsz : ys.size = ns.length := by
    have q := IntsAre.length hi
    rw [Array.length_toList] at q
    exact q
  have hne : a ≠ s.heap.objs.size + 1 := Nat.ne_of_lt (Nat.lt_succ_of_lt ha)
  have hout : s.heap.objs.size ∉ [s.heap.objs.size + 1, a] := by
    intro m
    rcases List.mem_cons.mp m with m | m
    · exact Nat.ne_of_lt (Nat.lt_succ_self _) m
    · exact Nat.ne_of_gt ha (List.mem_singleton.mp m)
  have hlist : ((s.heap.push (eSet w)).push { cls := .type "list_iterator", data := .fields #[.ref a, .int 0 0] }).IsList a ys := (hl.push _).push _
  have hit : ((s.heap.push (eSet w)).push { cls := .type "list_iterator", data := .fields #[.ref a, .int 0 0] }).IsListIter (s.heap.objs.size + 1) a 0 := by
    rw [← z1]
    exact ⟨_, Heap.get?_push_size _ rfl, rfl, rfl⟩
  have hset : ((s.heap.push (eSet w)).push { cls := .type "list_iterator", data := .fields #[.ref a, .int 0 0] }).get? s.heap.objs.size = some (eSet w) := Heap.get?_push_of_some _ (Heap.get?_push_size _ rfl)
  refine set_update_ints ((Walks.list (show A.in1.handled = none from hh) _ a hne ys).toS) s.heap.objs.size hout ns hsz hb (fun i v hv => ?_) (ys.size - 0) 0 _ (by omega) (Nat.zero_le _) ⟨hit, hlist⟩ ⟨0, Nat.le_refl 0, setR_new_at hset⟩ fun s' c hm hc hS => ?_
  · have hlt : i < ns.length := by rw [← hsz]; exact (Array.getElem?_eq_some_iff.mp hv).1
    obtain ⟨t, e⟩ := PyProof.Rows.IntsAre.int_at hi i v (by rw [Array.getElem?_toList]; exact hv)
    refine ⟨ns[i], t, List.getElem?_eq_getElem hlt, ?_⟩
    rw [e, List.getD_eq_getElem?_getD, List.getElem?_eq_getElem hlt]
    rfl
  · obtain ⟨h', g2, d', tk', os'⟩ := s'
    have eg : g2 = s.gens := hm.gens
    have ed : d' = s.drawn := hm.drawn
    have eo : os' = s.os := hm.os
    subst eg ed eo
    refine ⟨rfl, h', tk', c, rfl, hS, by omega, fun b o e => ?_⟩
    have hb0 : b < s.heap.objs.size := Heap.lt_size e
    refine hm.heap b o (fun m => ?_) (Heap.get?_push_of_some _ (Heap.get?_push_of_some _ e))
    rcases List.mem_cons.mp m with m | m
    · exact Nat.ne_of_lt hb0 m
    · exact Nat.ne_of_lt (Nat.lt_succ_of_lt hb0) (List.mem_singleton.mp m)
theorem call_set_ints {a : Addr} {ys : Array Value} (ns : List Int) {Q : Value → Shared → Prop} (hh : A.handled = none) (hl : s.heap.IsList a ys) (hi : IntsAre ys.toList ns) (hb : ns.length + 1 < scanBound)
    (h : ∀ s₂, Made w s ns s₂ → Q (.ref s.heap.objs.size) s₂) : wpAny (model P w) A (call (.type "set") [.ref a]) Q E s := by
  obtain ⟨c, tl, hmro⟩ := F.called_set.mro
  have k1 := F.called_set.made
  have k2 := F.called_set.sub
  have k3 := F.called_set.notType
  have k4 := F.called_set.canCreate
  have k5 := F.typeCall_set_1 (.ref a)
  refine wpAny_call (codeAny_of_tree ?_)
  show wpAny _ _ (callAny (.type "set") _) _ _ _
  refine wpAny_pure ⟨Code.quiet_builtin _ (by decide +kernel), codeAny_builtin F.entry_type_call ?_⟩
  rw [Around.under_plain (weight_type_call_type "set" [.ref a] []) rfl]
  repeat (any_goals (first | assumption | wp_step))
  refine codeAny_mono (code_set_led1 (.ref a) (E := E) (Q₁ := fun o s₁ => o = .ref s.heap.objs.size ∧ s₁ = { s with heap := s.heap.push (eSet w) }) ⟨rfl, rfl⟩) fun r s₁ hr => ?_
  cases r with
  | error e => exact hr
  | ok fl =>
    cases fl with
    | ret o =>
      obtain ⟨rfl, rfl⟩ := hr
      have g0 : (s.heap.push (eSet w)).get? s.heap.objs.size = some (eSet w) := Heap.get?_push_size _ rfl
      have g1 : Shared.TypeIs { s with heap := s.heap.push (eSet w) } (.ref s.heap.objs.size) "set" := ⟨_, g0, rfl⟩
      have k6 := F.called_set.init.lookup
      have k7 := F.called_set.init.bind (.ref s.heap.objs.size)
      repeat (any_goals (first | assumption | wp_step))
      refine codeAny_mono (codeAny_call_builtin (R := wants (fun r s₂ => r = .none ∧ Made w s ns s₂) E) F.called_set.init.plain F.entry_set_init (check_set_init_1 g1 ?_)) fun r₂ s₂ hr₂ => ?_
      · obtain ⟨⟨c1, d1, x1, y1⟩, hol, hcl, nl, hdl⟩ := id hl
        simp only at hcl hdl
        subst hcl hdl
        have g2 : (s.heap.push (eSet w)).get? a = some { cls := .type "list", dict := d1, data := .seq ys nl, slots := y1 } := Heap.get?_push_of_some _ hol
        have k8 := F.sub_list_set
        have k9 := F.sub_list_frozenset
        have k10 : (Value.type "list" == Value.type "dict") = false := by decide
        have g3 : (s.heap.push (eSet w)).IsList a ys := ⟨_, g2, rfl, nl, rfl⟩
        have z1 : (s.heap.push (eSet w)).objs.size = s.heap.objs.size + 1 := Heap.size_push ..
        unfold Builtin.«set.__init__» noKeywords Builtin.Frozenset.updateFrom
        generalize hPI : pyIter = PI
        wp_walk
        subst hPI
        refine wpAny_pyIter_list g3 (wpAny_bind (wpAny_runValue ?_))
        rw [z1]
        refine codeAny_mono (fill_ints (A := A.in1.in1) ns (by simp [hh]) hl hi hb (Heap.lt_size hol) rfl) fun r s' hr => ?_
        obtain ⟨rfl, hm⟩ := hr
        show wpAny _ _ _ _ _ _
        refine wpAny_pure ?_
        show wpAny _ _ (ret Value.none) _ _ _
        exact wpAny_pure ⟨rfl, hm⟩
      · cases r₂ with
        | error e => exact hr₂
        | ok fl₂ =>
          cases fl₂ with
          | ret r =>
            obtain ⟨rfl, hm⟩ := hr₂
            repeat (any_goals (first | assumption | wp_step))
            exact h _ hm
          | _ => exact hr₂.elim
    | _ => exact hr.elim
end
end PD
set_option linter.all false
set_option maxRecDepth 100000
set_option maxHeartbeats 1000000
/-! Readings: sorted(set(ints)), x[::-1]. -/
namespace PD
open PySem PySem.Spec PyProof.Rows L2
theorem onceI_mem : ∀ {xs : List Int} {k : Int}, k ∈ onceI xs ↔ k ∈ xs
  | [], _ => by simp [onceI]
  | x :: r, k => by
    unfold onceI
    split
    · rename_i h
      rw [onceI_mem, List.mem_cons]
      exact ⟨.inr, fun q => q.elim (fun q => by rw [q]; exact h) _root_.id⟩
    · rw [List.mem_cons, onceI_mem, List.mem_cons]
theorem onceI_nodup : ∀ xs : List Int, (onceI xs).Nodup
  | [] => by simp [onceI]
  | x :: r => by
    unfold onceI
    split
    · exact onceI_nodup r
    · rename_i h
      exact List.nodup_cons.mpr ⟨fun q => h (onceI_mem.mp q), onceI_nodup r⟩
theorem lt_of_le_nodup : ∀ {xs : List Int}, xs.Pairwise (· ≤ ·) → xs.Nodup → xs.Pairwise (· < ·)
  | [], _, _ => .nil
  | x :: r, h, n => by
    obtain ⟨h1, h2⟩ := List.pairwise_cons.mp h
    obtain ⟨n1, n2⟩ := List.nodup_cons.mp n
    refine List.pairwise_cons.mpr ⟨fun y hy => ?_, lt_of_le_nodup h2 n2⟩
    have := h1 y hy
    have : x ≠ y := fun e => n1 (by rw [e]; exact hy)
    omega
theorem strict_one : ∀ {xs ys : List Int}, xs.Pairwise (· < ·) → ys.Pairwise (· < ·) → (∀ k, k ∈ xs ↔ k ∈ ys) → xs = ys
  | [], [], _, _, _ => rfl
  | [], y :: ys, _, _, h => absurd ((h y).mpr List.mem_cons_self) (by simp)
  | x :: xs, [], _, _, h => absurd ((h x).mp List.mem_cons_self) (by simp)
  | x :: xs, y :: ys, h1, h2, h => by
    obtain ⟨a1, a2⟩ := List.pairwise_cons.mp h1
    obtain ⟨b1, b2⟩ := List.pairwise_cons.mp h2
    have e : x = y := by
      have m1 := (h x).mp List.mem_cons_self
      have m2 := (h y).mpr List.mem_cons_self
      rcases List.mem_cons.mp m1 with e | m1
      · exact e
      · rcases List.mem_cons.mp m2 with e | m2
        · exact e.symm
        · have := a1 y m2
          have := b1 x m1
          omega
    subst e
    rw [strict_one a2 b2 fun k => ?_]
    have := h k
    rw [List.mem_cons, List.mem_cons] at this
    constructor
    · intro m
      rcases this.mp (.inr m) with e | q
      · have := a1 k m; omega
      · exact q
    · intro m
      rcases this.mpr (.inr m) with e | q
      · have := b1 k m; omega
      · exact q
theorem onceR_mem : ∀ {xs : List (List Int)} {k : List Int}, k ∈ onceR xs ↔ k ∈ xs
  | [], _ => by simp [onceR]
  | x :: r, k => by
    unfold onceR
    split
    · rename_i h
      rw [onceR_mem, List.mem_cons]
      exact ⟨.inr, fun q => q.elim (fun q => by rw [q]; exact h) _root_.id⟩
    · rw [List.mem_cons, onceR_mem, List.mem_cons]
theorem onceR_nodup : ∀ xs : List (List Int), (onceR xs).Nodup
  | [] => by simp [onceR]
  | x :: r => by
    unfold onceR
    split
    · exact onceR_nodup r
    · rename_i h
      exact List.nodup_cons.mpr ⟨fun q => h (onceR_mem.mp q), onceR_nodup r⟩
theorem insC_perm (x : List Int) : ∀ l, (insC x l).Perm (x :: l)
  | [] => .refl _
  | y :: r => by
    unfold insC
    split
    · exact .refl _
    · exact ((insC_perm x r).cons y).trans (.swap x y r)
theorem sortC_perm : ∀ l, (sortC l).Perm l
  | [] => .refl _
  | x :: r => (insC_perm x (sortC r)).trans ((sortC_perm r).cons x)
abbrev CLe (x y : List Int) : Prop := TS.code cBd x ≤ TS.code cBd y
theorem insC_le (x : List Int) : ∀ l, l.Pairwise CLe → (insC x l).Pairwise CLe
  | [], _ => by simp [insC]
  | y :: r, h => by
    obtain ⟨h1, h2⟩ := List.pairwise_cons.mp h
    unfold insC
    split
    · rename_i q
      refine List.pairwise_cons.mpr ⟨fun z hz => ?_, h⟩
      rcases List.mem_cons.mp hz with e | hz
      · rw [e]; exact q
      · exact Int.le_trans q (h1 z hz)
    · rename_i q
      refine List.pairwise_cons.mpr ⟨fun z hz => ?_, insC_le x r h2⟩
      rcases List.mem_cons.mp ((insC_perm x r).mem_iff.mp hz) with e | hz
      · rw [e]; show TS.code cBd y ≤ TS.code cBd x; omega
      · exact h1 z hz
theorem sortC_le : ∀ l, (sortC l).Pairwise CLe
  | [] => .nil
  | x :: r => insC_le x _ (sortC_le r)
structure RowP (d : Nat) (r : List Int) : Prop where
  len : r.length = d
  bd : TS.Bd cBd r
theorem rowsOk_ok {d : Nat} {rs : List (List Int)} (h : rowsOk d rs = true) : 1 ≤ d ∧ d ≤ 1000 ∧ ∀ r ∈ rs, RowP d r := by
  simp only [rowsOk, Bool.and_eq_true, decide_eq_true_eq, List.all_eq_true] at h
  exact ⟨h.1.1, h.1.2, fun r hr => ⟨(h.2 r hr).1, fun m hm => (h.2 r hr).2 m hm⟩⟩
theorem code_inj : ∀ {q r : List Int}, q.length = r.length → TS.Bd cBd q → TS.Bd cBd r → TS.code cBd q = TS.code cBd r → q = r
  | [], [], _, _, _, _ => rfl
  | [], _ :: _, h, _, _, _ => by simp at h
  | _ :: _, [], h, _, _, _ => by simp at h
  | x :: q, y :: r, h, bq, br, e => by
    have hl : q.length = r.length := by simpa using h
    have exy : x = y := by
      rcases Int.lt_trichotomy x y with z | z | z
      · have := TS.code_lt hl bq.tail br.tail z; omega
      · exact z
      · have := TS.code_lt hl.symm br.tail bq.tail z; omega
    subst exy
    have e2 : TS.code cBd q = TS.code cBd r := by
      have e : x * cBd ^ q.length + TS.code cBd q = x * cBd ^ r.length + TS.code cBd r := e
      rw [hl] at e
      omega
    rw [code_inj hl bq.tail br.tail e2]
/-- two rows of the same items, both ascending -/
theorem rows_one {d : Nat} : ∀ {xs ys : List (List Int)}, (∀ r ∈ xs, RowP d r) → (∀ r ∈ ys, RowP d r) → xs.Pairwise CLe → ys.Pairwise CLe → xs.Nodup → ys.Nodup → (∀ k, k ∈ xs ↔ k ∈ ys) → xs = ys
  | [], [], _, _, _, _, _, _, _ => rfl
  | [], y :: ys, _, _, _, _, _, _, h => absurd ((h y).mpr List.mem_cons_self) (by simp)
  | x :: xs, [], _, _, _, _, _, _, h => absurd ((h x).mp List.mem_cons_self) (by simp)
  | x :: xs, y :: ys, px, py, h1, h2, n1, n2, h => by
    obtain ⟨a1, a2⟩ := List.pairwise_cons.mp h1
    obtain ⟨b1, b2⟩ := List.pairwise_cons.mp h2
    obtain ⟨c1, c2⟩ := List.nodup_cons.mp n1
    obtain ⟨d1, d2⟩ := List.nodup_cons.mp n2
    have e : x = y := by
      have m1 := (h x).mp List.mem_cons_self
      have m2 := (h y).mpr List.mem_cons_self
      rcases List.mem_cons.mp m1 with e | m1
      · exact e
      · rcases List.mem_cons.mp m2 with e | m2
        · exact e.symm
        · have z1 : TS.code cBd x ≤ TS.code cBd y := a1 y m2
          have z2 : TS.code cBd y ≤ TS.code cBd x := b1 x m1
          have p1 := px x List.mem_cons_self
          have p2 := py y List.mem_cons_self
          exact code_inj (p1.len.trans p2.len.symm) p1.bd p2.bd (by omega)
    subst e
    rw [rows_one (fun r hr => px r (List.mem_cons_of_mem _ hr)) (fun r hr => py r (List.mem_cons_of_mem _ hr)) a2 b2 c2 d2 fun k => ?_]
    have := h k
    rw [List.mem_cons, List.mem_cons] at this
    constructor
    · intro m
      rcases this.mp (.inr m) with e | q
      · rw [e] at m; exact absurd m c1
      · exact q
    · intro m
      rcases this.mpr (.inr m) with e | q
      · rw [e] at m; exact absurd m d1
      · exact q
/-- where rows stand -/
theorem rows_at {K : PySem.W.Frag} {H : Hp} {A : Addr → Prop} : ∀ {ds : List D} {vs : List V} {rs : List (List Int)}, DvAll K H A ds vs → rows? ds = some rs → ∃ ks : List (Addr × List Int), vs = ks.map (fun p => V.ref p.1) ∧ ks.map (·.2) = rs ∧ ∀ p ∈ ks, SqT K H p.1 (p.2.map V.int)
  | [], vs, rs, h, e => by
    simp only [rows?] at e
    cases e
    exact ⟨[], h.eqnil, rfl, fun p hp => by cases hp⟩
  | d :: ds, vs, rs, h, e => by
    obtain ⟨v, r, rfl, h1, h2⟩ := h.uncons
    cases d with
    | tuple xs =>
      simp only [rows?, Option.bind_eq_some_iff, Option.map_eq_some_iff] at e
      obtain ⟨x, hx, rs', hr, rfl⟩ := e
      obtain ⟨ks, e1, e2, e3⟩ := rows_at h2 hr
      obtain ⟨a, ys, rfl, q1, q2, q3⟩ := h1.t
      rw [q3.ints hx] at q1
      refine ⟨(a, x) :: ks, by rw [e1]; rfl, by rw [List.map_cons, e2], fun p hp => ?_⟩
      rcases List.mem_cons.mp hp with e | hp
      · rw [e]; exact q1
      · exact e3 p hp
    | _ => simp only [rows?] at e; cases e
theorem rows_dv {K : PySem.W.Frag} {H : Hp} {A : Addr → Prop} : ∀ {ks : List (Addr × List Int)}, (∀ p ∈ ks, SqT K H p.1 (p.2.map V.int) ∧ p.2.length ≤ 1000) → DvAll K H A (tupRows (ks.map (·.2))) (ks.map fun p => V.ref p.1)
  | [], _ => .nil
  | p :: ks, h => by
    obtain ⟨h1, h2⟩ := h p List.mem_cons_self
    exact .cons (.mkT h1 (by rw [List.length_map, sizeLine_eq]; omega) (.ofInts _)) (rows_dv fun q hq => h q (List.mem_cons_of_mem _ hq))
section
variable {X : Cx}
def rSetI (K : PySem.W.Frag) (w : World) : List V → Hp → VK → Prop := fun vs H Q => ∃ (a : Addr) (ns : List Int), vs = [V.ref a] ∧ SqL K H a (ns.map V.int) ∧ ns.length < 60 ∧ ∀ p c, H p = none → c ≤ ns.length → Q (.ref p) (upd H p (SetO w p (fun j => decide (j ∈ ns)) c))
theorem cr_setI (hc : X.calm = true) : CallR X (.type "set") (rSetI X.K X.w) := by
  intro pins s σ H vs us Q I r ⟨a, ns, e, hl, hf, q⟩
  subst e
  obtain ⟨u, rfl, ru⟩ := r.one
  cases ru
  obtain ⟨its, rv, p, hz⟩ := I.list hl
  refine call_set_ints ns (I.ok.hd hc) p.isList (by have := ints_of_vals rv; simpa using this) (by unfold scanBound; omega) fun s₂ hm => ?_
  obtain ⟨h', tk, c, rfl, hS, hcl, hk⟩ := hm
  have I2 : Inv X pins σ (upd H s.heap.objs.size (SetO X.w s.heap.objs.size (fun j => decide (j ∈ ns)) c)) { s with heap := h', toks := tk } := I.laid (t' := tk) hk (Nat.le_refl _) (setO_new hS)
  exact ⟨.ref _, _, I2, rfl, q _ c (I.hok.fresh (Nat.le_refl _)) hcl⟩
end
section
variable {X : Cx} {F : Fx} {W : Nat → Hp → Prop} {pos p p2 p3 : Pos} {a b c : Expr} {ma mb mc m : ME} {σ : Slots} {H : Hp}
theorem boot_set : bootBuiltins "set" = some (.type "set") := by decide +kernel
theorem boot_sorted : bootBuiltins "sorted" = some (.builtin "sorted") := by decide +kernel
theorem d_sset (hc : X.calm = true) (hu : X.A.units + 64 < cLine) (hK : X.K = F.K) (hg : Gl X "sorted") (hm : X.mg "sorted" = none) (hg2 : Gl X "set") (hm2 : X.mg "set" = none) (ha : PE X a (tD F W ma)) (hp : plainE a = true) :
    PE X (.Call (.Name "sorted" p) [.Call (.Name "set" p2) [a] [] p3] [] pos) (tD F W (.blt .sset ma)) := by
  have h1 : PE X (.Call (.Name "set" p2) [a] [] p3) (tCB (fun vs H Q => rSetI X.K X.w vs H Q ∨ rSetOfT X.K X.prog X.w vs H Q) (tCons (tD F W ma) tNil)) := pe_callTy ((cr_setI hc).or (cr_setOfT hc hu)) hg2 hm2 boot_set (pa_1 ha hp) (by decide) (by decide) (star_plain hp)
  refine (pe_callB ((cr_sortedSet hc).or (cr_sortedT hc)) hg hm boot_sorted (pa_cons h1 pa_nil rfl) (by decide) (by decide) rfl).imp fun σ H Q ⟨e, B, I, A⟩ => ?_
  simp only [ev] at A
  refine ⟨e, B, I, A.bind.imp fun x B1 H1 g h v hv => ?_⟩
  have I1 := I.step g
  obtain ⟨d, hd, k⟩ := h.ofO
  cases x with
  | list ds =>
    simp only [bltD, ssetD] at hd
    split at hd
    · rename_i ns hns
      split at hd
      case isFalse => cases hd
      rename_i hlen
      cases hd
      obtain ⟨a', xs, rfl, q, z, t⟩ := hv.di.l
      rw [t.ints hns] at q
      refine .inl ⟨a', ns, rfl, by rw [hK]; exact q, hlen, fun p1 c hp1 hcn => .inl ⟨p1, _, c, rfl, upd_same, by omega, fun ms p2 hs hmem hl hp2 => ?_⟩⟩
      have e1 : ms = sortI (onceI ns) := by
        refine strict_one hs (lt_of_le_nodup (sortI_le _) ((sortI_perm _).nodup_iff.mpr (onceI_nodup _))) fun k => ?_
        rw [hmem k, decide_eq_true_eq, (sortI_perm _).mem_iff, onceI_mem]
      subst e1
      have s1 : Same H1 (upd H1 p1 (SetO X.w p1 (fun j => decide (j ∈ ns)) c)) := same_new hp1
      have I2 := I1.step (I1.here.same s1)
      exact (out_of (m := .blt .sset ma) (b := ss F.O ma) I2 (by simp only [sf]) (by simp only [ss]) fun H' g' v' hv' => k H' ((I1.here.same s1).trans g') v' hv').lst (I2.domP _) hp2 (by rw [List.length_map, hl, sizeLine_eq]; omega) (.ofInts _)
    · simp only [Option.bind_eq_some_iff] at hd
      obtain ⟨rs, hrs, hd⟩ := hd
      split at hd
      case isFalse => cases hd
      rename_i hlr
      cases hd
      obtain ⟨d1, d2, hrow⟩ := rowsOk_ok hlr.2
      obtain ⟨a', xs, rfl, q, z, t⟩ := hv.di.l
      obtain ⟨ks, rfl, rfl, hks⟩ := rows_at t hrs
      refine .inr ⟨a', ks, rfl, by rw [hK]; exact q, by rw [hK]; exact hks, by have := hlr.1; rw [List.length_map] at this; exact this, fun p1 L hp1 hsub hall => .inr ⟨p1, L, widthR (ks.map (·.2)), cBd, rfl, upd_same, fun p hp => ?_, d1, fun p hp => ?_, fun L' p2 pm nd hfew pw hp2 => ?_⟩⟩
      · rw [hK]; exact Same.sqT (same_new hp1) (hks p (hsub p hp))
      · have r := hrow p.2 (List.mem_map.mpr ⟨p, hsub p hp, rfl⟩)
        exact ⟨r.len, r.bd⟩
      · have s1 : Same H1 (upd H1 p1 (SetTO X.prog X.w p1 L)) := same_new hp1
        have I2 := I1.step (I1.here.same s1)
        have hL' : ∀ p ∈ L', p ∈ ks := fun p hp => hsub p (pm.mem_iff.mp hp)
        have e1 : L'.map (·.2) = sortC (onceR (ks.map (·.2))) := by
          refine rows_one (d := widthR (ks.map (·.2))) (fun r hr => ?_) (fun r hr => ?_) (by rw [List.pairwise_map]; exact pw) (sortC_le _) nd ((sortC_perm _).nodup_iff.mpr (onceR_nodup _)) fun k => ?_
          · obtain ⟨p, hp, rfl⟩ := List.mem_map.mp hr
            exact hrow p.2 (List.mem_map.mpr ⟨p, hL' p hp, rfl⟩)
          · exact hrow r (onceR_mem.mp ((sortC_perm _).mem_iff.mp hr))
          · rw [(sortC_perm _).mem_iff, onceR_mem]
            constructor
            · intro hk
              obtain ⟨p, hp, rfl⟩ := List.mem_map.mp hk
              exact List.mem_map.mpr ⟨p, hL' p hp, rfl⟩
            · intro hk
              obtain ⟨p, hp, rfl⟩ := List.mem_map.mp hk
              exact (pm.map (·.2)).mem_iff.mpr (hall p hp)
        rw [← e1] at k
        have dvs : DvAll F.K (upd H1 p1 (SetTO X.prog X.w p1 L)) (Pr F σ e (ss F.O ma)) (tupRows (L'.map (·.2))) (L'.map fun q => V.ref q.1) := rows_dv fun p hp => ⟨Same.sqT s1 (hks p (hL' p hp)), by rw [(hrow p.2 (List.mem_map.mpr ⟨p, hL' p hp, rfl⟩)).len]; exact d2⟩
        exact (out_of (m := .blt .sset ma) (b := ss F.O ma) I2 (by simp only [sf]) (by simp only [ss]) fun H' g' v' hv' => k H' ((I1.here.same s1).trans g') v' hv').lst (I2.domP _) hp2 (by rw [List.length_map, sizeLine_eq]; omega) dvs
  | _ => simp only [bltD] at hd; cases hd
theorem d_rev {k : Nat} (hK : X.K = F.K) (ha : PE X a (tD F W ma)) : PE X (.Subscript a (.Slice none none (some (.UnaryOp .USub (.Constant (.int 1) k p) p2)) p3) pos) (tD F W (.blt .rev ma)) := by
  refine (pe_rvA ha).imp fun σ H Q ⟨e, B, I, A⟩ => ?_
  simp only [ev] at A
  refine ⟨e, B, I, A.bind.imp fun x B1 H1 g h v hv => ?_⟩
  have I1 := I.step g
  obtain ⟨d, hd, h⟩ := h.ofO
  have o := out_of (m := .blt .rev ma) (b := ss F.O ma) I1 (by simp only [sf]) (by simp only [ss]) h
  cases x with
  | list ds =>
    simp only [bltD, Option.some.injEq] at hd
    subst hd
    obtain ⟨a', xs, rfl, q, z, t⟩ := hv.di.l
    exact ⟨a', xs, rfl, .inl ⟨by rw [hK]; exact q, fun p hp => o.lst (I1.domP _) hp (by rw [List.length_reverse]; exact z) t.reverse⟩⟩
  | tuple ds =>
    simp only [bltD, Option.some.injEq] at hd
    subst hd
    obtain ⟨a', xs, rfl, q, z, t⟩ := hv.di.t
    exact ⟨a', xs, rfl, .inr ⟨by rw [hK]; exact q, fun p hp => o.tup hp (by rw [List.length_reverse]; exact z) t.reverse⟩⟩
  | _ => simp only [bltD] at hd; cases hd
end
end PD
set_option linter.all false
set_option maxRecDepth 100000
set_option maxHeartbeats 1000000
/-! f-strings, a list's tail from its end, list(range). -/
namespace PD
open PySem PySem.Spec PyProof.Rows L2
section
variable {X : Cx} {F : Fx} {W : Nat → Hp → Prop} {pos p p2 p3 p4 : Pos} {a b c : Expr} {ma mb mc m : ME} {σ : Slots} {H : Hp}
theorem d_fmt (ha : PE X a (tD F W ma)) : PE X (.FormattedValue a (-1) none pos) (tD F W (.blt .fmt ma)) := by
  refine (pe_fmt ha).imp fun σ H Q ⟨e, B, I, A⟩ => ?_
  simp only [ev] at A
  refine ⟨e, B, I, A.bind.imp fun x B1 H1 g h v hv => ?_⟩
  have I1 := I.step g
  obtain ⟨d, hd, h⟩ := h.ofO
  cases x with
  | int i =>
    simp only [bltD] at hd
    split at hd
    · rename_i hl
      cases hd
      refine .inr ⟨i, hv.dv, hl, h H1 I1.here _ (.ofV fun _ => .ofS _)⟩
    · cases hd
  | str y =>
    simp only [bltD] at hd
    split at hd
    · rename_i hl
      cases hd
      refine .inl ⟨y, hv.dv, hl, h H1 I1.here _ (.ofV fun _ => .ofS _)⟩
    · cases hd
  | _ => simp only [bltD] at hd; cases hd
/-- the parts' readings -/
def tDs (F : Fx) (W : Nat → Hp → Prop) : MEs → List TE
  | .nil => []
  | .cons m r => tD F W m :: tDs F W r
theorem js_run : ∀ (ms : MEs) (acc : Str) (σ : Slots) (H : Hp) (e : SEnv) (B : Bg) (Q : Str → Hp → Prop), SI F σ H e B → After F W σ H e (evj F.Γ ms acc e B) (fun y _ H' => Q y H') → tJs (tDs F W ms) acc σ H Q
  | .nil, acc, σ, H, e, B, Q, I, A => by
    simp only [evj] at A
    exact A H I.here
  | .cons m r, acc, σ, H, e, B, Q, I, A => by
    simp only [evj] at A
    refine ⟨e, B, I, A.bind.imp fun x B1 H1 g h v hv => ?_⟩
    have I1 := I.step g
    cases x with
    | str y =>
      have hv' : v = .str y := hv.dv
      refine ⟨y, hv', ?_⟩
      by_cases hl : (acc ++ y).length ≤ sizeLine
      · simp only [hl, if_true] at h
        exact ⟨hl, js_run r (acc ++ y) σ H1 e B1 Q I1 h⟩
      · simp only [hl, if_false] at h
        exact (show False from h).elim
    | _ => exact (show False from h).elim
theorem d_js {es : List Expr} {ms : MEs} (h : PJ X (a :: b :: es) (tDs F W ms)) : PE X (.JoinedStr (a :: b :: es) pos) (tD F W (.js ms)) := by
  refine (pe_joined h).imp fun σ H Q ⟨e, B, I, A⟩ => ?_
  simp only [ev] at A
  refine js_run ms Str.empty σ H e B _ I (A.bind.imp fun y B1 H1 g k => ?_)
  have I1 := I.step g
  exact k H1 I1.here _ (.ofV fun _ => .ofS _)
theorem rev_pick (items : Array Value) : slicePick items none (some 0) (some (-1)) = items.toList.tail.reverse.toArray := by
  have hb : sliceBounds none (some 0) (some (-1)) items.size = ((items.size : Int) - 1, max (-1) (min 0 ((items.size : Int) - 1)), -1) := by
    first
    | rfl
    | simp [sliceBounds]
  unfold slicePick
  rw [hb]
  show ((sliceRange ((items.size : Int) - 1) (max (-1) (min 0 ((items.size : Int) - 1))) (-1)).filterMap (items[·]?)).toArray = _
  congr 1
  have h1 : ¬ ((-1 : Int) > 0) := by decide
  by_cases hz : items.size = 0
  · have e : items.toList = [] := by
      have : items.toList.length = 0 := by rw [Array.length_toList]; exact hz
      exact List.length_eq_zero_iff.mp this
    rw [e, hz]
    rfl
  · have e0 : max (-1) (min 0 ((items.size : Int) - 1)) = 0 := by omega
    rw [e0]
    have e1 : sliceRange ((items.size : Int) - 1) 0 (-1) = (List.range (items.size - 1)).map fun k => items.size - 1 - k := by
      unfold sliceRange
      by_cases h : (items.size : Int) - 1 > 0
      · have e : ((items.size : Int) - 1 - 0 - -1 - 1) / (- -1) = ((items.size - 1 : Nat) : Int) := by
          rw [show (- -1 : Int) = 1 by decide, Int.ediv_one]
          omega
        simp only [h1, if_false, h, if_true, e, Int.toNat_natCast]
        apply List.map_congr_left
        intro k hk
        have := List.mem_range.mp hk
        omega
      · have e : items.size = 1 := by omega
        rw [e]; rfl
    rw [e1]
    apply List.ext_getElem?
    intro i
    rw [List.filterMap_map]
    have hall : ∀ k ∈ List.range (items.size - 1), ((items[·]?) ∘ fun k => items.size - 1 - k) k = some (items.toList.tail.reverse.getD k Value.none) := by
      intro k hk
      have hk := List.mem_range.mp hk
      have hl : k < items.toList.tail.reverse.length := by simp; omega
      simp only [Function.comp]
      rw [List.getD_eq_getElem?_getD, List.getElem?_eq_getElem hl, Option.getD_some, List.getElem_reverse, List.getElem_tail]
      rw [Array.getElem?_eq_getElem (by omega)]
      congr 1
      rw [Array.getElem_toList]
      congr 1
      simp
      omega
    have e2 : (List.range (items.size - 1)).filterMap ((items[·]?) ∘ fun k => items.size - 1 - k) = (List.range (items.size - 1)).map fun k => items.toList.tail.reverse.getD k Value.none := by
      rw [fm_same hall]
      exact List.filterMap_eq_map (f := fun k => items.toList.tail.reverse.getD k Value.none) ▸ rfl
    rw [e2]
    have hl : items.toList.tail.reverse.length = items.size - 1 := by simp
    by_cases hi : i < items.size - 1
    · rw [List.getElem?_map, List.getElem?_range hi, Option.map_some, List.getD_eq_getElem?_getD, List.getElem?_eq_getElem (by omega)]
      rfl
    · rw [List.getElem?_eq_none (by simp; omega), List.getElem?_eq_none (by omega)]
theorem paired_tail {α β : Type} {R : α → β → Prop} {xs : List α} {ys : List β} (r : Paired R xs ys) : Paired R xs.tail ys.tail := by
  cases r with
  | nil => exact .nil
  | cons _ t => exact t
theorem dvAll_tail {K : PySem.W.Frag} {H : Hp} {A : Addr → Prop} {ds : List D} {vs : List V} (h : DvAll K H A ds vs) : DvAll K H A ds.tail vs.tail := by
  cases ds with
  | nil =>
    have : vs = [] := h
    subst this; exact h
  | cons d ds =>
    obtain ⟨v, r, rfl, _, t⟩ := h
    exact t
theorem rangeD_map (lo : Int) : ∀ n, rangeD lo n = ((List.range n).map fun (k : Nat) => lo + (k : Int)).map PyData.int
  | 0 => rfl
  | n + 1 => by
    rw [rangeD, rangeD_map (lo + 1) n, List.range_succ_eq_map]
    simp
    intro a ha
    omega
/-- a list's tail from its end -/
def tRvB (K : PySem.W.Frag) (te : TE) : TE := fun σ H Q => te σ H fun x H1 => ∃ a xs, x = .ref a ∧ SqL K H1 a xs ∧ ∀ p, H1 p = none → Q (.ref p) (upd H1 p (.lst xs.tail.reverse))
theorem pe_rvB {te : TE} {e : Expr} {k k2 : Nat} {p1 p2 p3 p4 pos : Pos} (he : PE X e te) : PE X (.Subscript e (.Slice none (some (.Constant (.int 0) k2 p4)) (some (.UnaryOp .USub (.Constant (.int 1) k p1) p2)) p3) pos) (tRvB X.K te) := by
  refine ⟨fun pins s σ H Q I h => Subscript_ (thn (he.run pins s σ H _ I h) fun v s1 ⟨x, H1, I1, r1, q1⟩ => ?_)⟩
  obtain ⟨a, xs, ex, hx, q⟩ := q1
  subst ex
  cases r1
  have hst : PO X (some (.UnaryOp .USub (.Constant (.int 1) k p1) p2)) (tPart (tUn (rU fun i => .int (-i)) (L2.tC (.int 1)))) := po_some (pe_un un_neg pe_int)
  have hup : PO X (some (.Constant (.int 0) k2 p4)) (tPart (L2.tC (.int 0))) := po_some pe_int
  refine wpAny_Slice (thn (po_none.run pins s1 σ H1 (fun o G => o = none ∧ G = H1) I1 ⟨rfl, rfl⟩) fun vl s2 ⟨l, H2, I2, pl, el, e2⟩ => ?_)
  subst el e2
  refine thn (hup.run pins s2 σ H2 (fun o G => o = some 0 ∧ G = H2) I2 ⟨0, rfl, rfl, rfl⟩) fun vu s3 ⟨u, H3, I3, pu, eu, e3⟩ => ?_
  subst eu e3
  refine thn (hst.run pins s3 σ H3 (fun o G => o = some (-1) ∧ G = H3) I3 ⟨1, rfl, -1, rfl, rfl, rfl⟩) fun vs s4 ⟨o, H4, I4, ps, eo, e4⟩ => ?_
  subst eo e4
  have I5 : Inv X pins σ H4 { s4 with heap := s4.heap.push { cls := .type "slice", data := .fields #[vl, vu, vs] } } := I4.kept (t' := s4.toks) fun b ob q => Heap.get?_push_of_some _ q
  have fr := I5.hok.fresh (Nat.le_refl _)
  obtain ⟨its, r, ht, hz⟩ := I5.list hx
  have hl := r.length
  show wpAny (model X.prog X.w) X.A (subscriptTail e (.Slice none (some (.Constant (.int 0) k2 p4)) (some (.UnaryOp .USub (.Constant (.int 1) k p1) p2)) p3) (.ref a) (.ref s4.heap.objs.size)) _ X.xe _
  refine tail_any (ops := [.ref a, .ref s4.heap.objs.size]) ht.isList.typeIs (PySem.slot_list_getitem.lookup) ?_ (by with_unfolding_all rfl)
  refine wpAny_getItem_list_slice ht.isList (Heap.IsSliceOf.new _ vl vu vs) pl pu ps (by decide) ?_ (by rw [List.size_toArray]; omega)
  rw [rev_pick]
  exact ⟨.ref _, _, I5.laid (t' := s4.toks) (o := .lst xs.tail.reverse) (fun b ob q => Heap.get?_push_of_some _ q) (Nat.le_refl _) ⟨by rw [List.length_reverse, List.length_tail]; omega, _, 0, (show Vals xs.tail its.tail from paired_tail r).reverse, Heap.get?_push_size _ rfl⟩, rfl, q _ fr⟩
theorem d_revt {k k2 : Nat} (hK : X.K = F.K) (ha : PE X a (tD F W ma)) : PE X (.Subscript a (.Slice none (some (.Constant (.int 0) k2 p4)) (some (.UnaryOp .USub (.Constant (.int 1) k p) p2)) p3) pos) (tD F W (.blt .revt ma)) := by
  refine (pe_rvB ha).imp fun σ H Q ⟨e, B, I, A⟩ => ?_
  simp only [ev] at A
  refine ⟨e, B, I, A.bind.imp fun x B1 H1 g h v hv => ?_⟩
  have I1 := I.step g
  obtain ⟨d, hd, h⟩ := h.ofO
  have o := out_of (m := .blt .revt ma) (b := ss F.O ma) I1 (by simp only [sf]) (by simp only [ss]) h
  cases x with
  | list ds =>
    simp only [bltD, Option.some.injEq] at hd
    subst hd
    obtain ⟨a', xs, rfl, q, z, t⟩ := hv.di.l
    exact ⟨a', xs, rfl, by rw [hK]; exact q, fun p hp => o.lst (I1.domP _) hp (by rw [List.length_reverse, List.length_tail]; omega) (dvAll_tail t).reverse⟩
  | _ => simp only [bltD] at hd; cases hd
theorem d_lrng (hc : X.calm = true) (hK : X.K = F.K) (hg : Gl X "list") (hm : X.mg "list" = none) (hg2 : Gl X "range") (hm2 : X.mg "range" = none) (ha : PE X a (tD F W ma)) (hp : plainE a = true) :
    PE X (.Call (.Name "list" p) [.Call (.Name "range" p2) [a] [] p3] [] pos) (tD F W (.blt .lrng ma)) := by
  refine (pe_listRg hc hg hm (prg_1 hg2 hm2 ha (star_plain hp))).imp fun σ H Q ⟨e, B, I, A⟩ => ?_
  simp only [ev] at A
  refine ⟨e, B, I, A.bind.imp fun x B1 H1 g h v hv => ?_⟩
  have I1 := I.step g
  obtain ⟨d, hd, h⟩ := h.ofO
  cases x with
  | int j =>
    simp only [bltD] at hd
    split at hd
    · rename_i hr
      cases hd
      simp only [rngOk, Bool.and_eq_true, decide_eq_true_eq] at hr
      refine ⟨j, hv.dv, ⟨by omega, by omega, by omega, by omega, by omega⟩, fun q hq => ?_⟩
      have o := out_of (m := .blt .lrng ma) (b := ss F.O ma) I1 (by simp only [sf]) (by simp only [ss]) h
      have e1 : rgV 0 j = ((List.range j.toNat).map fun (k : Nat) => (0 : Int) + (k : Int)).map V.int := by
        unfold rgV
        rw [List.map_map, Int.sub_zero]
        rfl
      rw [e1]
      rw [rangeD_map] at o
      exact o.lst (I1.domP _) hq (by simp only [List.length_map, List.length_range, sizeLine_eq]; omega) (.ofInts _)
    · cases hd
  | _ => simp only [bltD] at hd; cases hd
end
end PD
set_option linter.all false
set_option maxRecDepth 100000
set_option maxHeartbeats 1000000
/-! Statements. -/
namespace PD
open PySem PySem.Spec PyProof.Rows L2
/-- what a value that is given back must be -/
structure RetOk (F : Fx) (new : Bool) (d : D) (v : V) (H' : Hp) (B' : Bg) : Prop where
  ext : Ext F.T (fun a => F.b0 = some a) F.H0 H'
  bag : ∀ b, F.b0 = some b → H' b = some (.lst (B'.map V.int))
  dv : Dv F.K H' F.A0 d v
  new : new = true → (∃ ds, d = .list ds) → Frs F.K F.A0 F.H0 H' d v
def Wish (F : Fx) (W : Nat → Hp → Prop) (new : Bool) (r : M Fl) (E : Ends) : Prop := match r with
  | .ok (.nx e', B') => ∀ σ' H', SI F σ' H' e' B' → E.nx σ' H'
  | .ok (.rt d, B') => ∀ v H', RetOk F new d v H' B' → E.rt v H'
  | .err c => ∀ H', Ext F.T (fun a => F.b0 = some a) F.H0 H' → W c H'
  | .stuck => False
def tS (F : Fx) (W : Nat → Hp → Prop) (new : Bool) (m : MS) : TS := fun E σ H => ∃ e B, SI F σ H e B ∧ Wish F W new (evS F.Γ m e B) E
def tSs (F : Fx) (W : Nat → Hp → Prop) (new : Bool) (m : MSs) : TS := fun E σ H => ∃ e B, SI F σ H e B ∧ Wish F W new (evSs F.Γ m e B) E
section
variable {F : Fx} {W : Nat → Hp → Prop} {σ σ' : Slots} {H H1 H2 H' : Hp} {e e' : SEnv} {B B1 B2 B' : Bg} {new : Bool} {E : Ends} {α : Type}
theorem SI.err (I : SI F σ H e B) (x : Ext F.T (Bm σ e) H H') : Ext F.T (fun a => F.b0 = some a) F.H0 H' :=
  ⟨fun a o h n t => x.keep a o (I.ext.keep a o h n t) (I.noBm h n t) t, fun a xs h => x.tups a xs (I.ext.tups a xs h), fun a o u h => x.frzs a o u (I.ext.frzs a o u h), fun h => x.tabs (I.ext.tabs h)⟩
theorem Wish.after {x : M α} {f : α → Bg → M Fl} (h : Wish F W new (x.bind f) E) (I : SI F σ H e B) : After F W σ H e x fun a B1 H1 => Wish F W new (f a B1) E := by
  cases x with
  | stuck => exact h
  | err c => exact fun H' x => h H' (I.err x)
  | ok p => exact fun H' g => h
theorem SI.ret (I : SI F σ H e B) {d : D} {v : V} (hv : Dv F.K H F.A0 d v) : RetOk F false d v H B :=
  ⟨I.ext, fun b h => by
    obtain ⟨i, h1, h2⟩ := I.b0 b h
    obtain ⟨_, b', e1, e2, _⟩ := I.bag i h1
    rw [h2] at e1; cases e1
    exact e2, hv, fun z => (by cases z)⟩
/-! ### lists that are written -/
theorem Own.av {i : Nat} {a : Addr} (h : Own e i) (h2 : σ[i]? = some (some (.ref a))) : Av F σ e a := .inr ⟨i, h, h2⟩
/-- the list of a slot is written -/
theorem SI.wrO (I : SI F σ H e B) {i : Nat} {ds ds' : List D} {a : Addr} {xs xs' : List V} (he : e[i]? = some (.own ds)) (hs : σ[i]? = some (some (.ref a))) (hx : H a = some (.lst xs)) (z : xs'.length ≤ sizeLine) (t : DvAll F.K H (Av F σ e) ds' xs') :
    SI F σ (upd H a (.lst xs')) (e.set i (.own ds')) B := by
  have hi : i < e.length := by
    obtain ⟨h, _⟩ := List.getElem?_eq_some_iff.mp he
    exact h
  have ne_ : ∀ {j : Nat}, j ≠ i → (e.set i (.own ds'))[j]? = e[j]? := fun n => by rw [List.getElem?_set, if_neg (fun w => n w.symm)]
  have at_ : (e.set i (.own ds'))[i]? = some (.own ds') := by rw [List.getElem?_set, if_pos rfl, if_pos hi]
  have ow : ∀ j, Own (e.set i (.own ds')) j ↔ Own e j := fun j => by
    by_cases hj : j = i
    · subst hj
      exact ⟨fun _ => .inr ⟨ds, he⟩, fun _ => .inr ⟨ds', at_⟩⟩
    · unfold Own; rw [ne_ hj]
  have bg : ∀ j : Nat, ((e.set i (.own ds'))[j]? = some Sl.bag) ↔ (e[j]? = some Sl.bag) := fun j => by
    by_cases hj : j = i
    · subst hj
      rw [at_, he]
      exact ⟨fun h => (by cases h), fun h => (by cases h)⟩
    · rw [ne_ hj]
  have av : ∀ x, Av F σ (e.set i (.own ds')) x ↔ Av F σ e x := fun x => by
    constructor
    · rintro (h | ⟨j, h1, h2⟩)
      · exact .inl h
      · exact .inr ⟨j, (ow j).mp h1, h2⟩
    · rintro (h | ⟨j, h1, h2⟩)
      · exact .inl h
      · exact .inr ⟨j, (ow j).mpr h1, h2⟩
  have bm : ∀ x, Bm σ (e.set i (.own ds')) x ↔ Bm σ e x := fun x => ⟨fun ⟨j, h1, h2⟩ => ⟨j, (bg j).mp h1, h2⟩, fun ⟨j, h1, h2⟩ => ⟨j, (bg j).mpr h1, h2⟩⟩
  have aAv : Av F σ e a := Own.av (.inr ⟨ds, he⟩) hs
  have x : Ext F.T (fun b => b = a) H (upd H a (.lst xs')) := .lst hx rfl
  have th0 : Thru F.K H (upd H a (.lst xs')) (Av F σ e) (Av F σ e) := x.thru fun b q => by rw [q]; exact aAv
  have th : Thru F.K H (upd H a (.lst xs')) (Av F σ e) (Av F σ (e.set i (.own ds'))) := ⟨fun b ys q => (th0.l b ys q).less fun y q => (av y).mp q, th0.t⟩
  obtain ⟨hO, a', xs0, q1, q2, q3, q4, nw, nb⟩ := I.own i ds he
  rw [hs] at q1
  cases q1
  have ne : ∀ {b : Addr}, ¬ b = a → (upd H a (.lst xs')) b = H b := fun n => upd_ne n
  refine ⟨by rw [List.length_set]; exact I.len, ⟨fun b o h n t => ?_, fun b ys h => x.tups b ys (I.ext.tups b ys h), fun b o u h => x.frzs b o u (I.ext.frzs b o u h), fun h => x.tabs (I.ext.tabs h)⟩, x.tabs I.tabs, fun b q => ?_, fun j d q => ?_, fun j es q => ?_, fun j q => ?_, fun j k b h1 h2 => I.inj j k b ((ow j).mp h1) ((ow k).mp h2), fun j k h1 h2 => I.one j k ((bg j).mp h1) ((bg k).mp h2), fun b h => ?_, fun p hp => (I.kp p hp).thru th th, fun j kvs q => ?_, fun j c fs q => ?_⟩
  · have n' : ¬ b = a := fun z => by rw [z] at h; exact nw.no h t
    rw [ne n']
    exact I.ext.keep b o h n t
  · by_cases n : b = a
    · rw [n]; exact ⟨_, upd_same, fun ps z => by cases z⟩
    · obtain ⟨o, h1, h2⟩ := I.dom' b q
      exact ⟨o, by rw [ne n]; exact h1, h2⟩
  · have hj : j ≠ i := fun w => by rw [w, at_] at q; cases q
    rw [ne_ hj] at q
    obtain ⟨v, e1, h1⟩ := I.val j d q
    exact ⟨v, e1, Dv.thru th d h1⟩
  · by_cases hj : j = i
    · subst hj
      rw [at_] at q
      cases q
      exact ⟨hO, a, xs', hs, upd_same, z, DvAll.thru th ds' t, nw, fun q => nb (q.elim .inl fun q => .inr ((bm a).mp q))⟩
    · rw [ne_ hj] at q
      obtain ⟨h0, b, ys, e1, e2, e3, e4, e5, e6⟩ := I.own j es q
      have n : ¬ b = a := fun w => hj (I.inj j i a (.inr ⟨es, q⟩) (.inr ⟨ds, he⟩) (by rw [← w]; exact e1) hs)
      exact ⟨h0, b, ys, e1, by rw [ne n]; exact e2, e3, DvAll.thru th es e4, e5, fun q => e6 (q.elim .inl fun q => .inr ((bm b).mp q))⟩
  · have q' := (bg j).mp q
    obtain ⟨h0, b, e1, e2, e3⟩ := I.bag j q'
    have n : ¬ b = a := fun w => nb (.inr (by rw [← w]; exact ⟨j, q', e1⟩))
    exact ⟨h0, b, e1, by rw [ne n]; exact e2, e3⟩
  · obtain ⟨j, h1, h2⟩ := I.b0 b h
    exact ⟨j, (bg j).mpr h1, h2⟩
  · have hj : j ≠ i := fun w => by rw [w, at_] at q; cases q
    rw [ne_ hj] at q
    obtain ⟨h0, b, ys, e1, e2, e3, e4, e5, e6, e7⟩ := I.dic j kvs q
    have n : ¬ b = a := fun w => by rw [w, hx] at e2; exact DictO.nl (Option.some.inj e2).symm
    refine ⟨h0, b, ys, e1, by rw [ne n]; exact e2, e3, e4.thru th, e5.thru th.t, e6, fun k kws q1 q2 => ?_⟩
    have hk : k ≠ i := fun w => by rw [w, at_] at q1; cases q1
    rw [ne_ hk] at q1
    exact e7 k kws q1 q2
  · have hj : j ≠ i := fun w => by rw [w, at_] at q; cases q
    rw [ne_ hj] at q
    obtain ⟨h0, e1, e2⟩ := I.ins j c fs q
    exact ⟨h0, e1, e2.thru th fun C dx gs q => by
      have n : ¬ c = a := fun w => by rw [w, hx] at q; cases q
      rw [ne n]; exact q⟩
/-- a slot gets a new list, to be written; or the bag -/
theorem SI.setN (I : SI F σ H e B) (g : Go F σ H e B1 H1) {i : Nat} {a : Addr} {xs : List V} {z : Sl} (hO : i ∈ F.O) (hi : i < e.length) (nw : Nw H a) (hx : H1 a = some (.lst xs))
    (hz : (∃ ds, z = .own ds ∧ B' = B1 ∧ e[i]? ≠ some .bag ∧ xs.length ≤ sizeLine ∧ DvAll F.K H1 (fun y => Av F σ e y ∨ y = a) ds xs) ∨ (z = .bag ∧ F.b0 = none ∧ xs = B'.map V.int ∧ ∀ j, e[j]? = some .bag → j = i)) : SI F (σ.set i (some (.ref a))) H1 (e.set i z) B' := by
  have ne_ : ∀ {j : Nat}, j ≠ i → (e.set i z)[j]? = e[j]? := fun n => by rw [List.getElem?_set, if_neg (fun w => n w.symm)]
  have nes : ∀ {j : Nat}, j ≠ i → (σ.set i (some (.ref a)))[j]? = σ[j]? := fun n => by rw [List.getElem?_set, if_neg (fun w => n w.symm)]
  have at_ : (e.set i z)[i]? = some z := by rw [List.getElem?_set, if_pos rfl, if_pos hi]
  have ats : (σ.set i (some (.ref a)))[i]? = some (some (.ref a)) := by rw [List.getElem?_set, if_pos rfl, if_pos (by rw [← I.len]; exact hi)]
  have av : ∀ x, Av F (σ.set i (some (.ref a))) (e.set i z) x → Av F σ e x ∨ x = a := fun x h => by
    rcases h with h | ⟨j, h1, h2⟩
    · exact .inl (.inl h)
    · by_cases hj : j = i
      · subst hj
        rw [ats] at h2
        cases h2
        exact .inr rfl
      · rw [nes hj] at h2
        unfold Own at h1
        rw [ne_ hj] at h1
        exact .inl (.inr ⟨j, h1, h2⟩)
  have I1 := I.step g
  have th : Thru F.K H H1 (Av F σ e) (Av F (σ.set i (some (.ref a))) (e.set i z)) := by
    have t1 : Thru F.K H H1 (Av F σ e) (Av F σ e) := g.ext.thru fun _ h => h.av
    refine ⟨fun b ys q => ?_, t1.t⟩
    rcases q with q | q | q
    · refine .inl ⟨g.ext.keep b _ q.1 (fun w => q.2 w.av) (fun ps z => by cases z), fun w => ?_⟩
      rcases av b w with w | w
      · exact q.2 w
      · rw [w] at q; exact nw.no q.1 (fun ps z => by cases z)
    · obtain ⟨o, q⟩ := q
      exact .inr (.inl ⟨o, g.ext.frzs b o _ q⟩)
    · exact .inr (.inr q)
  have bm : ∀ x, Bm (σ.set i (some (.ref a))) (e.set i z) x → Bm σ e x ∨ x = a := fun x ⟨j, h1, h2⟩ => by
    by_cases hj : j = i
    · subst hj
      rw [ats] at h2
      cases h2
      exact .inr rfl
    · rw [ne_ hj] at h1
      rw [nes hj] at h2
      exact .inl ⟨j, h1, h2⟩
  have old : ∀ {j : Nat} {b : Addr}, Own e j → σ[j]? = some (some (.ref b)) → b ≠ a := fun {j b} h1 h2 w => by
    obtain ⟨o, q1, q2⟩ := I.domA b (Own.av h1 h2)
    rw [w] at q1
    exact nw.no q1 q2
  refine ⟨by rw [List.length_set, List.length_set]; exact I.len, I1.ext, I1.tabs, I1.dom', fun j d q => ?_, fun j es q => ?_, fun j q => ?_, fun j k b h1 h2 h3 h4 => ?_, fun j k h1 h2 => ?_, fun b h => ?_, fun p hp => (I.kp p hp).thru th th, fun j kvs q => ?_, fun j c fs q => ?_⟩
  · have hj : j ≠ i := fun w => by
      rw [w, at_] at q
      rcases hz with ⟨ds, hz, _⟩ | ⟨hz, _⟩ <;> rw [hz] at q <;> cases q
    rw [ne_ hj] at q
    obtain ⟨v, e1, h1⟩ := I.val j d q
    exact ⟨v, by rw [nes hj]; exact e1, Dv.thru th d h1⟩
  · by_cases hj : j = i
    · subst hj
      rw [at_] at q
      rcases hz with ⟨ds, hz, _, nb, z1, t⟩ | ⟨hz, _⟩
      · rw [hz] at q
        cases q
        refine ⟨hO, a, xs, ats, hx, z1, t.less av, I.nw nw, fun w => ?_⟩
        rcases w with w | ⟨k, h1, h2⟩
        · exact I.nAv nw (.inl w)
        · by_cases hk : k = j
          · rw [hk, at_, hz] at h1; cases h1
          · rw [ne_ hk] at h1
            rw [nes hk] at h2
            exact old (.inl h1) h2 rfl
      · rw [hz] at q; cases q
    · rw [ne_ hj] at q
      obtain ⟨h0, b, ys, e1, e2, e3, e4, e5, e6⟩ := I1.own j es q
      obtain ⟨_, b', ys', e1', e2', _, e4', _⟩ := I.own j es q
      rw [e1] at e1'
      cases e1'
      have hyy : ys' = ys := by
        have := g.ext.keep b _ e2' (fun w => e6 (.inr w)) (fun ps z => by cases z)
        rw [e2] at this
        cases this
        rfl
      subst hyy
      refine ⟨h0, b, ys', by rw [nes hj]; exact e1, e2, e3, DvAll.thru th es e4', e5, fun w => ?_⟩
      rcases w with w | w
      · exact e6 (.inl w)
      · rcases bm b w with w | w
        · exact e6 (.inr w)
        · exact old (.inr ⟨es, q⟩) e1 w
  · by_cases hj : j = i
    · subst hj
      rw [at_] at q
      rcases hz with ⟨ds, hz, _⟩ | ⟨hz, hb0, hxs, _⟩
      · rw [hz] at q; cases q
      · exact ⟨hO, a, ats, by rw [hx, hxs], .inr (I.nw nw)⟩
    · rw [ne_ hj] at q
      rcases hz with ⟨ds, hz, hB, _⟩ | ⟨hz, hb0, hxs, h1⟩
      · obtain ⟨h0, b, e1, e2, e3⟩ := I1.bag j q
        exact ⟨h0, b, by rw [nes hj]; exact e1, by rw [hB]; exact e2, e3⟩
      · exact absurd (h1 j q) hj
  · by_cases hj : j = i
    · by_cases hk : k = i
      · rw [hj, hk]
      · rw [hj, ats] at h3
        cases h3
        unfold Own at h2
        rw [ne_ hk] at h2
        rw [nes hk] at h4
        exact absurd rfl (old h2 h4)
    · unfold Own at h1
      rw [ne_ hj] at h1
      rw [nes hj] at h3
      by_cases hk : k = i
      · rw [hk, ats] at h4
        cases h4
        exact absurd rfl (old h1 h3)
      · unfold Own at h2
        rw [ne_ hk] at h2
        rw [nes hk] at h4
        exact I.inj j k b h1 h2 h3 h4
  · rcases hz with ⟨ds, hz, hB, nb, _⟩ | ⟨hz, hb0, hxs, hb1⟩
    · have n1 : j ≠ i := fun w => by rw [w, at_, hz] at h1; cases h1
      have n2 : k ≠ i := fun w => by rw [w, at_, hz] at h2; cases h2
      rw [ne_ n1] at h1
      rw [ne_ n2] at h2
      exact I.one j k h1 h2
    · have m : ∀ l, (e.set i z)[l]? = some .bag → l = i := fun l h => by
        by_cases hl : l = i
        · exact hl
        · rw [ne_ hl] at h; exact hb1 l h
      rw [m j h1, m k h2]
  · rcases hz with ⟨ds, hz, hB, nb, _⟩ | ⟨hz, hb0, _⟩
    · obtain ⟨j, h1, h2⟩ := I.b0 b h
      have n1 : j ≠ i := fun w => nb (by rw [← w]; exact h1)
      exact ⟨j, by rw [ne_ n1]; exact h1, by rw [nes n1]; exact h2⟩
    · rw [hb0] at h; cases h
  · have nz : ∀ {k : Nat} {kws : List (List Int × D)}, (e.set i z)[k]? = some (.dic kws) → k ≠ i := fun q w => by
      rw [w, at_] at q
      rcases hz with ⟨ds, hz, _⟩ | ⟨hz, _⟩ <;> rw [hz] at q <;> cases q
    have hj := nz q
    rw [ne_ hj] at q
    obtain ⟨h0, b, ys, e1, e2, e3, e4, e5, e6, e7⟩ := I.dic j kvs q
    refine ⟨h0, b, ys, by rw [nes hj]; exact e1, g.ext.keep b _ e2 (I.nBmD e2) (fun ps => DictO.nt), e3, e4.thru th, e5.thru th.t, e6, fun k kws q1 q2 => ?_⟩
    have hk := nz q1
    rw [ne_ hk] at q1
    rw [nes hk] at q2
    exact e7 k kws q1 q2
  · have hj : j ≠ i := fun w => by
      rw [w, at_] at q
      rcases hz with ⟨ds, hz, _⟩ | ⟨hz, _⟩ <;> rw [hz] at q <;> cases q
    rw [ne_ hj] at q
    obtain ⟨h0, e1, e2⟩ := I.ins j c fs q
    exact ⟨h0, by rw [nes hj]; exact e1, e2.thru th fun C dx gs q => g.ext.keep c _ q (I.nBmI q) (fun ps z => by cases z)⟩
end
end PD
set_option linter.all false
set_option maxRecDepth 100000
set_option maxHeartbeats 1000000
/-! Statements: the rules. -/
namespace PD
open PySem PySem.Spec PyProof.Rows L2
section
variable {X : Cx} {F : Fx} {W : Nat → Hp → Prop} {new : Bool} {pos p p2 p3 : Pos} {a b c tg : Expr} {ma mb mc m : ME} {ms : MEs} {es : List Expr} {t : Tgt} {st : Stmt} {body rest : List Stmt}
theorem bagFree_spec : ∀ {i : Nat} {e : SEnv}, bagFree i e = true → i < e.length ∧ ∀ j : Nat, e[j]? = some .bag → j = i
  | _, [], h => by simp [bagFree] at h
  | 0, s :: r, h => by
    simp only [bagFree, List.all_eq_true, Bool.not_eq_true'] at h
    refine ⟨by simp, fun j hj => ?_⟩
    cases j with
    | zero => rfl
    | succ j =>
      have hj' : r[j]? = some .bag := by simpa using hj
      have := h _ (List.mem_of_getElem? hj')
      cases this
  | i + 1, s :: r, h => by
    simp only [bagFree, Bool.and_eq_true, Bool.not_eq_true'] at h
    obtain ⟨h1, h2⟩ := bagFree_spec h.2
    refine ⟨by simp; omega, fun j hj => ?_⟩
    cases j with
    | zero =>
      have : s = .bag := by simpa using hj
      rw [this] at h
      cases h.1
    | succ j => rw [h2 j (by simpa using hj)]
theorem s_nil : PSs X [] (tSs F W new .nil) := pss_nil.imp fun E σ H ⟨e, B, I, A⟩ => by
  simp only [evSs] at A
  exact A σ H I
theorem s_cons {s : MS} {r : MSs} (h1 : PS X st (tS F W new s)) (h2 : PSs X rest (tSs F W new r)) : PSs X (st :: rest) (tSs F W new (.cons s r)) := by
  refine (pss_cons h1 h2).imp fun E σ H ⟨e, B, I, A⟩ => ?_
  simp only [evSs] at A
  refine ⟨e, B, I, ?_⟩
  cases q : evS F.Γ s e B with
  | stuck => rw [q] at A; exact A
  | err n => rw [q] at A; exact A
  | ok pr =>
    obtain ⟨x, B1⟩ := pr
    rw [q] at A
    cases x with
    | nx e1 => exact fun σ' H' I' => ⟨e1, B1, I', A⟩
    | rt d => exact A
theorem s_asg (he : PE X a (tD F W m)) (hg : PG X tg (gD F t)) (hsf : sf F.O m = true) (hs : swapsWithSole [tg] a pos.line X.env = pure false) (hw : swappedStores [tg] a X.env = pure none) (h1 : (assignEach [tg] X.env).map (·.2) = [assign tg X.env]) :
    PS X (.Assign [tg] a pos) (tS F W new (.asg t m)) := by
  refine (ps_asg he hg hs hw h1).imp fun E σ H ⟨e, B, I, A⟩ => ?_
  simp only [evS, onE] at A
  refine ⟨e, B, I, (A.after I).bind.imp fun d B1 H1 g h v hv => ?_⟩
  have h := h H1 (I.step g).here
  cases q : bindT t d e with
  | none => rw [q] at h; exact h.elim
  | some e' =>
    rw [q] at h
    exact ⟨e, B1, d, e', I.step g, by have := hv.dv; rw [hsf] at this; exact this, q, fun σ' I' _ _ _ => h σ' H1 I'⟩
theorem s_asgC {tc : TE} {i : Nat} (hp : PS X st (tAsg tc (gName i))) (hc : ∀ σ H Q, tF F W m σ H Q → tc σ H Q) (hO : i ∉ F.O) (hsf : sf F.O m = true) : PS X st (tS F W new (.asg (.nm i) m)) := by
  refine hp.imp fun E σ H ⟨e, B, I, A⟩ => hc σ H _ ?_
  simp only [evS, onE] at A
  refine ⟨e, B, I, (A.after I).bind.imp fun d B1 H1 g h v hv _ => ?_⟩
  have h := h H1 (I.step g).here
  simp only [bindT] at h
  have hv := hv.dv
  rw [hsf] at hv
  exact h _ H1 ((I.step g).setV hO hv)
/-- name = a new list, to be written -/
theorem s_asgO {tc : TE} {i : Nat} (hp : PS X st (tAsg tc (gName i))) (hc : ∀ σ H Q, tF F W m σ H Q → tc σ H Q) (hO : i ∈ F.O) (hss : ss F.O m = true) : PS X st (tS F W new (.asgO i m)) := by
  refine hp.imp fun E σ H ⟨e, B, I, A⟩ => hc σ H _ ?_
  simp only [evS] at A
  refine ⟨e, B, I, (A.after I).imp fun d B1 H1 g h v hv fr => ?_⟩
  cases q : e[i]? with
  | none => rw [q] at h; exact False.elim h
  | some s =>
    have hi : i < e.length := (List.getElem?_eq_some_iff.mp q).1
    rw [q] at h
    have nb : s ≠ .bag := fun z => by rw [z] at h; exact h
    have hd : ∃ ds, d = .list ds ∧ ∀ σ' H', SI F σ' H' (e.set i (.own ds)) B1 → E.nx σ' H' := by
      cases s with
      | bag => exact absurd rfl nb
      | _ => cases d <;> first | exact ⟨_, rfl, h⟩ | exact False.elim h
    obtain ⟨ds, rfl, hq⟩ := hd
    obtain ⟨ds', a', xs, e1, rfl, hx, z, nw, t⟩ := fr ⟨ds, rfl⟩
    cases e1
    refine hq _ H1 (I.setN g hO hi nw hx (.inl ⟨ds, rfl, rfl, by rw [q]; intro w; cases w; exact nb rfl, z, ?_⟩))
    rw [hss] at t
    exact t
theorem s_par {i j : Nat} {x y : Str} {px py pt : Pos} {kt k2 pt2} (hc : X.calm = true) (hN : X.N.Nodup) (hi : X.N[i]? = some x) (hj : X.N[j]? = some y) (hij : i ≠ j) (hx : X.env.scope.names.lookup x = some .local) (hy : X.env.scope.names.lookup y = some .local)
    (ha : PE X a (tD F W ma)) (hb : PE X b (tD F W mb)) (hp : plainE a = true) (hp2 : plainE b = true) (hsa : sf F.O ma = true) (hsb : sf F.O mb = true) (hOi : i ∉ F.O) (hOj : j ∉ F.O)
    (hw : swappedStores [.Tuple [.Name x px, .Name y py] kt pt] (.Tuple [a, b] k2 pt2) X.env = pure (some [x, y])) (hs : swapsWithSole [.Tuple [.Name x px, .Name y py] kt pt] (.Tuple [a, b] k2 pt2) pos.line X.env = pure false) :
    PS X (.Assign [.Tuple [.Name x px, .Name y py] kt pt] (.Tuple [a, b] k2 pt2) pos) (tS F W new (.par i j ma mb)) := by
  refine (ps_par hc hN hi hj hij hx hy (pa_cons ha (pa_cons hb pa_nil (star_plain hp2)) (star_plain hp)) hw hs).imp fun E σ H ⟨e, B, I, A⟩ => ?_
  simp only [evS] at A
  refine ⟨e, B, I, (A.after I).imp fun d B1 H1 g h v hv => ⟨e, B1, I.step g, (h.after (I.step g)).imp fun d2 B2 H2 g2 h2 v2 hv2 => ⟨v, v2, rfl, ?_⟩⟩⟩
  have h3 := (hv.go g2).dv
  have h4 := hv2.dv
  rw [hsa] at h3
  rw [hsb] at h4
  have I2 := ((I.step g).step g2)
  have I3 := I2.setV hOi h3
  refine h2 _ H2 (I3.setV hOj (h4.less fun x q => ?_))
  rcases q with q | ⟨k, q1, q2⟩
  · exact .inl q
  · have hk : k ≠ i := fun w => hOi (by rw [← w]; exact I3.ownO q1)
    refine .inr ⟨k, ?_, ?_⟩
    · unfold Own at q1 ⊢
      rw [List.getElem?_set, if_neg (fun w => hk w.symm)] at q1
      exact q1
    · rw [List.getElem?_set, if_neg (fun w => hk w.symm)] at q2
      exact q2
theorem setV_av {i : Nat} {d : D} {v : V} {σ : Slots} {H : Hp} {e : SEnv} {B : Bg} (I : SI F σ H e B) (hi : i ∉ F.O) (hv : Dv F.K H (Av F σ e) d v) (x : Addr) (q : Av F (σ.set i (some v)) (e.set i (.val d)) x) : Av F σ e x := by
  have I3 := I.setV hi hv
  rcases q with q | ⟨k, q1, q2⟩
  · exact .inl q
  · have hk : k ≠ i := fun w => hi (by rw [← w]; exact I3.ownO q1)
    refine .inr ⟨k, ?_, ?_⟩
    · unfold Own at q1 ⊢
      rw [List.getElem?_set, if_neg (fun w => hk w.symm)] at q1
      exact q1
    · rw [List.getElem?_set, if_neg (fun w => hk w.symm)] at q2
      exact q2
theorem s_par3 {i j l : Nat} {x y z : Str} {px py pz pt : Pos} {kt k2 pt2} (hc : X.calm = true) (hN : X.N.Nodup) (hi : X.N[i]? = some x) (hj : X.N[j]? = some y) (hl : X.N[l]? = some z) (hij : i ≠ j) (hil : i ≠ l) (hjl : j ≠ l)
    (hx : X.env.scope.names.lookup x = some .local) (hy : X.env.scope.names.lookup y = some .local) (hz : X.env.scope.names.lookup z = some .local)
    (ha : PE X a (tD F W ma)) (hb : PE X b (tD F W mb)) (hcc : PE X c (tD F W mc)) (hp : plainE a = true) (hp2 : plainE b = true) (hp3 : plainE c = true) (hsa : sf F.O ma = true) (hsb : sf F.O mb = true) (hsc : sf F.O mc = true) (hOi : i ∉ F.O) (hOj : j ∉ F.O) (hOl : l ∉ F.O)
    (hw : swappedStores [.Tuple [.Name x px, .Name y py, .Name z pz] kt pt] (.Tuple [a, b, c] k2 pt2) X.env = pure (some [x, y, z])) (hs : swapsWithSole [.Tuple [.Name x px, .Name y py, .Name z pz] kt pt] (.Tuple [a, b, c] k2 pt2) pos.line X.env = pure false) :
    PS X (.Assign [.Tuple [.Name x px, .Name y py, .Name z pz] kt pt] (.Tuple [a, b, c] k2 pt2) pos) (tS F W new (.par3 i j l ma mb mc)) := by
  refine (ps_par3 hc hN hi hj hl hij hil hjl hx hy hz (pa_cons ha (pa_cons hb (pa_cons hcc pa_nil (star_plain hp3)) (star_plain hp2)) (star_plain hp)) hw hs).imp fun E σ H ⟨e, B, I, A⟩ => ?_
  simp only [evS] at A
  refine ⟨e, B, I, (A.after I).imp fun d B1 H1 g h v hv => ⟨e, B1, I.step g, (h.after (I.step g)).imp fun d2 B2 H2 g2 h2 v2 hv2 => ⟨e, B2, (I.step g).step g2, (h2.after ((I.step g).step g2)).imp fun d3 B3 H3 g3 h3 v3 hv3 => ⟨v, v2, v3, rfl, ?_⟩⟩⟩⟩
  have q1 := ((hv.go g2).go g3).dv
  have q2 := (hv2.go g3).dv
  have q3 := hv3.dv
  rw [hsa] at q1
  rw [hsb] at q2
  rw [hsc] at q3
  have I2 := ((I.step g).step g2).step g3
  have q2' := q2.less (setV_av I2 hOi q1)
  have I3 := I2.setV hOi q1
  have q3' := (q3.less (setV_av I2 hOi q1)).less (setV_av I3 hOj q2')
  exact h3 _ H3 ((I3.setV hOj q2').setV hOl q3')
/-- name[k] = .. -/
theorem s_setL {i : Nat} {x : Str} {k : Expr} {mk : ME} (hN : X.N[i]? = some x) (hv : Vis X.env.scope x) (hd : (x == ("__debug__" : Str)) = false) (hcd : (x == ("__classdict__" : Str)) = false) (ha : PE X a (tD F W m)) (hk : PE X k (tD F W mk)) (hsf : sf F.O m = true)
    (hasg : ∀ v, assign (.Subscript (.Name x p) k p2) X.env v = (do
      let ov ← holding [v] (eval (.Name x p) X.env)
      let iv ← holding [v, ov] (eval k X.env)
      standAt p2
      holding [v, ov, iv] (setItem ov iv v)
      release [v, ov, iv] [])) (hs : swapsWithSole [.Subscript (.Name x p) k p2] a pos.line X.env = pure false) (hw : swappedStores [.Subscript (.Name x p) k p2] a X.env = pure none) (h1 : (assignEach [.Subscript (.Name x p) k p2] X.env).map (·.2) = [assign (.Subscript (.Name x p) k p2) X.env]) :
    PS X (.Assign [.Subscript (.Name x p) k p2] a pos) (tS F W new (.setL i mk m)) := by
  refine (ps_asg ha (pg_sub (pe_var hN hv hd hcd) hk set_list hasg) hs hw h1).imp fun E σ H ⟨e, B, I, A⟩ => ?_
  simp only [evS] at A
  refine ⟨e, B, I, (A.after I).imp fun d B1 H1 g h v hv => ?_⟩
  have I1 := I.step g
  cases ho : e[i]? with
  | none => rw [ho] at h; exact h.elim
  | some s =>
    rw [ho] at h
    cases s with
    | own ds =>
      obtain ⟨hO, a', xs, q1, q2, q3, q4, q5, q6⟩ := I1.own i ds ho
      refine ⟨_, q1, e, B1, I1, (Wish.after h I1).imp fun y B2 H2 g2 h2 w hw => ?_⟩
      have I2 := I1.step g2
      obtain ⟨_, a2, xs2, r1, r2, r3, r4, _⟩ := I2.own i ds ho
      rw [q1] at r1
      cases r1
      cases y with
      | int n =>
        simp only at h2
        cases hj : ixD ds.length n with
        | none => rw [hj] at h2; exact h2.elim
        | some j =>
          rw [hj] at h2
          have hvv := (hv.go g2).dv
          rw [hsf] at hvv
          exact ⟨a', xs2, n, j, rfl, hw.di.i, r2, by rw [ixD_eq, r4.length]; exact hj, h2 _ _ (I2.wrO ho q1 r2 (by rw [List.length_set]; exact r3) (r4.set hvv j))⟩
      | _ => exact False.elim h2
    | _ => exact False.elim h
/-- name.append(..) -/
theorem s_app {i : Nat} {x : Str} (hN : X.N[i]? = some x) (hv : Vis X.env.scope x) (hd : (x == ("__debug__" : Str)) = false) (hcd : (x == ("__classdict__" : Str)) = false) (ha : PE X a (tD F W m)) (hp : plainE a = true) (hsf : sf F.O m = true) (hline : (p2.endLine == p3.line) = true) :
    PS X (.Expr (.Call (.Attribute (.Name x p) "append" p2) [a] [] p3) pos) (tS F W new (.app i m)) := by
  have hfew : ((backTo p3 (starEach [a] X.env)).all (fun x => !x.1) && (backToKw p3 (keywordEach [] X.env)).all (fun x => x.1.isSome) && decide ([a].length + ([] : List Keyword).length + (if ([] : List Keyword).isEmpty then 0 else 1) < 30)) = true := by
    rw [star_plain hp]; rfl
  refine (ps_expr (pe_bm PySem.F.plainAttrs_list PySem.F.slot_list_append PySem.F.type_list_append mt_append (pe_var hN hv hd hcd) (pa_1 ha hp) rfl hfew hline (star_plain hp)) rfl).imp fun E σ H ⟨e, B, I, A⟩ => ?_
  simp only [evS] at A
  cases ho : e[i]? with
  | none => rw [ho] at A; exact A.elim
  | some s =>
    rw [ho] at A
    cases s with
    | own ds =>
      obtain ⟨hO, a', xs, q1, q2, q3, q4, q5, q6⟩ := I.own i ds ho
      refine ⟨_, q1, .inl ⟨rfl, xs, SqL.of q2⟩, e, B, I, (Wish.after A I).imp fun d B1 H1 g h v hv => ?_⟩
      have I1 := I.step g
      obtain ⟨_, a2, xs2, r1, r2, r3, r4, _⟩ := I1.own i ds ho
      rw [q1] at r1
      cases r1
      have hvv := hv.dv
      rw [hsf] at hvv
      split at h
      · rename_i hz
        exact ⟨a', xs2, v, rfl, rfl, r2, by rw [r4.length]; exact hz, h _ _ (I1.wrO ho q1 r2 (by rw [List.length_append, r4.length]; exact hz) (r4.append (.cons hvv .nil)))⟩
      · exact h.elim
    | _ => exact False.elim A
/-- bag = f(..) -/
theorem s_setbag {tc : TE} {i f : Nat} (hp : PS X st (tAsg tc (gName i))) (hc : ∀ σ H Q, tF F W (.call f ms) σ H Q → tc σ H Q) (hO : i ∈ F.O) (hb0 : F.b0 = none) : PS X st (tS F W new (.setbag i f ms)) := by
  refine hp.imp fun E σ H ⟨e, B, I, A⟩ => hc σ H _ ?_
  simp only [evS] at A
  refine ⟨e, B, I, ?_⟩
  simp only [ev]
  cases q : evs F.Γ ms e B with
  | stuck => rw [q] at A; exact A
  | err n => rw [q] at A; exact fun H' x => A H' (I.err x)
  | ok pr =>
    obtain ⟨ds, B0⟩ := pr
    rw [q] at A
    show After F W σ H e ((F.Γ.call f ds).bind fun d => .ok (d, B0)) _
    have A : Wish F W new ((F.Γ.call f ds).bind _) E := A
    cases q2 : F.Γ.call f ds with
    | stuck => rw [q2] at A; exact A
    | err n => rw [q2] at A; exact fun H' x => A H' (I.err x)
    | ok d =>
      rw [q2] at A
      intro H1 g v hv fr
      cases d with
      | list xs =>
        have A : Wish F W new (match ints? xs with
          | some ns => if bagFree i e then .ok (.nx (e.set i .bag), ns) else .stuck
          | none => .stuck) E := A
        cases q3 : ints? xs with
        | none => rw [q3] at A; exact A.elim
        | some ns =>
          rw [q3] at A
          simp only at A
          split at A
          · rename_i hbf
            obtain ⟨hi, hu⟩ := bagFree_spec hbf
            obtain ⟨ds', a', ys, e1, rfl, hx, z, nw, t⟩ := fr ⟨xs, rfl⟩
            cases e1
            exact A _ H1 (I.setN g hO hi nw hx (.inr ⟨rfl, hb0, t.ints q3, hu⟩))
          · exact A.elim
      | _ => exact False.elim A
/-! ### expressions, returns -/
theorem s_expr (he : PE X a (tD F W m)) (hs : swapsWith a none pos.line X.env = pure false) : PS X (.Expr a pos) (tS F W new (.expr m)) := by
  refine (ps_expr he hs).imp fun E σ H ⟨e, B, I, A⟩ => ?_
  simp only [evS] at A
  exact ⟨e, B, I, (A.after I).imp fun d B1 H1 g h v hv => h σ H1 (I.step g)⟩
theorem s_ret (he : PE X a (tD F W m)) : PS X (.Return (some a) pos) (tS F W false (.ret m)) := by
  refine (ps_ret he).imp fun E σ H ⟨e, B, I, A⟩ => ?_
  simp only [evS] at A
  exact ⟨e, B, I, (A.after I).imp fun d B1 H1 g h v hv => h v H1 ((I.step g).ret (hv.dv.less fun x q => Ab.pr (.inl q)))⟩
theorem s_retF (he : PE X a (tF F W m)) : PS X (.Return (some a) pos) (tS F W new (.ret m)) := by
  refine (ps_ret he).imp fun E σ H ⟨e, B, I, A⟩ => ?_
  simp only [evS] at A
  refine ⟨e, B, I, (A.after I).with fun d B1 H1 q g h v hv fr => h v H1 ?_⟩
  have r := (I.step g).ret (hv.dv.less fun x q => Ab.pr (.inl q))
  refine ⟨r.ext, r.bag, r.dv, fun _ hl => ?_⟩
  obtain ⟨ds, a', xs, q1, q2, q3, q4, q5, q6⟩ := fr hl
  exact ⟨ds, a', xs, q1, q2, q3, q4, I.nw q5, q6.less fun x q => q.imp (fun q => Ab.pr (.inl q)) id⟩
theorem s_retO {i : Nat} {x : Str} (hN : X.N[i]? = some x) (hv : Vis X.env.scope x) (hd : (x == ("__debug__" : Str)) = false) (hcd : (x == ("__classdict__" : Str)) = false) : PS X (.Return (some (.Name x p)) pos) (tS F W new (.retO i)) := by
  refine (ps_ret (pe_var hN hv hd hcd)).imp fun E σ H ⟨e, B, I, A⟩ => ?_
  simp only [evS] at A
  cases ho : e[i]? with
  | none => rw [ho] at A; exact A.elim
  | some s =>
    rw [ho] at A
    cases s with
    | own ds =>
      obtain ⟨hO, a', xs, q1, q2, q3, q4, q5, q6⟩ := I.own i ds ho
      have aAv : Av F σ e a' := Own.av (.inr ⟨ds, ho⟩) q1
      have hdv : Dv F.K H F.A0 (.list ds) (.ref a') := .mkL (SqL.of q2) (fun w => q6 (.inl w)) q3 (q4.less fun x q => .inl q)
      have r := I.ret hdv
      exact ⟨_, q1, A _ H ⟨r.ext, r.bag, r.dv, fun _ _ => ⟨ds, a', xs, rfl, rfl, q2, q3, q5, q4.less fun x q => q.elim .inl fun q => by rw [q]; exact aAv⟩⟩⟩
    | _ => exact False.elim A
/-! ### if, while, for -/
theorem s_if {ba bb : List Stmt} {sa sb : MSs} (hc : PT X c (tT F W mc)) (h1 : PSs X ba (tSs F W new sa)) (h2 : PSs X bb (tSs F W new sb)) : PS X (.If c ba bb pos) (tS F W new (.ife mc sa sb)) := by
  refine (ps_if hc h1 h2).imp fun E σ H ⟨e, B, I, A⟩ => ?_
  simp only [evS] at A
  refine ⟨e, B, I, (A.after I).imp fun d B1 H1 g h => ?_⟩
  cases d with
  | bool k =>
    refine ⟨k, rfl, ?_⟩
    cases k with
    | true => exact ite_tt ⟨e, B1, I.step g, h⟩
    | false => exact ite_ff ⟨e, B1, I.step g, h⟩
  | _ => exact False.elim h
theorem s_while {sb : MSs} (hp : PassesOwn (model X.prog X.w) X.A X.env X.xe) (hc : PT X c (tT F W mc)) (hb : PSs X body (tSs F W new sb)) : PS X (.While c body [] pos) (tS F W new (.whil mc sb)) := by
  refine (ps_while hp hc hb).imp fun E σ H ⟨e, B, I, A⟩ => ?_
  simp only [evS] at A
  refine ⟨fun n σ H => ∃ e B, SI F σ H e B ∧ Wish F W new (whileL (fun σ B => ev F.Γ mc σ B) (fun σ B => evSs F.Γ sb σ B) n e B) E, ⟨_, e, B, I, A⟩, ?_⟩
  rintro n σ H ⟨e, B, I, A⟩
  cases n with
  | zero => exact False.elim A
  | succ n =>
    simp only [whileL] at A
    refine ⟨e, B, I, (A.after I).imp fun d B1 H1 g h => ?_⟩
    have I1 := I.step g
    cases d with
    | bool k =>
      refine ⟨k, rfl, ?_⟩
      cases k with
      | false => exact ite_ff (h σ H1 I1)
      | true =>
        refine ite_tt ⟨_, fun σ' H' q => ⟨n, Nat.lt_succ_self n, q⟩, e, B1, I1, ?_⟩
        have h : Wish F W new ((evSs F.Γ sb e B1).bind _) E := h
        cases q : evSs F.Γ sb e B1 with
        | stuck => rw [q] at h; exact h
        | err c => rw [q] at h; exact h
        | ok pr =>
          obtain ⟨x, B2⟩ := pr
          rw [q] at h
          cases x with
          | nx e2 => exact fun σ' H' I' => ⟨e2, B2, I', h⟩
          | rt d => exact h
    | _ => exact False.elim h
/-- more that is to stand -/
def Fx.keeps (F : Fx) (kp : List (D × V)) : Fx := { F with kp := kp ++ F.kp }
theorem SI.keeps {σ : Slots} {H : Hp} {e : SEnv} {B : Bg} {kp : List (D × V)} (I : SI F σ H e B) (h : ∀ p ∈ kp, Dj F.K H (Av F σ e) (Av F σ e) p.1 p.2) : SI (F.keeps kp) σ H e B :=
  ⟨I.len, I.ext, I.tabs, I.dom', I.val, I.own, I.bag, I.inj, I.one, I.b0, fun p hp => (List.mem_append.mp hp).elim (h p) (I.kp p), I.dic, I.ins⟩
theorem SI.drop {σ : Slots} {H : Hp} {e : SEnv} {B : Bg} {kp : List (D × V)} (I : SI (F.keeps kp) σ H e B) : SI F σ H e B :=
  ⟨I.len, I.ext, I.tabs, I.dom', I.val, I.own, I.bag, I.inj, I.one, I.b0, fun p hp => I.kp p (List.mem_append_right _ hp), I.dic, I.ins⟩
theorem s_for {mi : MI} {sb : MSs} (hp : PassesOwn (model X.prog X.w) X.A X.env X.xe) (hc : X.calm = true) (hi : PI X tg a (iD F W mi)) (hsf : sfI F.O mi = true) (hg : ∀ kp, PG X tg (gD (F.keeps kp) t)) (hb : ∀ kp, PSs X body (tSs (F.keeps kp) W new sb)) (hs : ∀ x, foldedSetIterable a X.env x = pure x) :
    PS X (.For tg a body [] pos) (tS F W new (.forr t mi sb)) := by
  have ps := ps_for (X := X) (tg := tg) (iter := a) (body := body) (pos := pos) (wi := iD F W mi) (g := fun v σ H K => ∃ kp, gD (F.keeps kp) t v σ H K) (tb := fun E σ H => ∃ kp, tSs (F.keeps kp) W new sb E σ H) hp hc hi
    ⟨fun pins s' σ H v u Q I r ⟨kp, q⟩ => (hg kp).run pins s' σ H v u Q I r q⟩ ⟨fun pins s' σ H Q I ⟨kp, q⟩ => (hb kp).run pins s' σ H Q I q⟩ hs
  refine ps.imp fun E σ H ⟨e, B, I, A⟩ => ?_
  simp only [evS] at A
  refine ⟨e, B, I, (A.after I).imp fun ds B1 H1 g h J kp wk hkp => ?_⟩
  have I1 := (I.step g)
  rw [hsf] at hkp
  have I1' : SI (F.keeps kp) σ H1 e B1 := I1.keeps hkp
  let fb : D → SEnv → Bg → M Fl := fun d σ B => match bindT t d σ with
    | some τ => evSs F.Γ sb τ B
    | none => .stuck
  have h : Wish F W new (forL fb ds e B1) E := h
  have walk : Walk J ds.length (fun H => ∃ A : Addr → Prop, ∀ p ∈ kp, Dj F.K H A A p.1 p.2) (fun i H' x H'' => Same H' H'' ∧ ∃ d, ds[i]? = some d ∧ ∀ A : Addr → Prop, (∀ p ∈ kp, Dj F.K H' A A p.1 p.2) → Dv F.K H'' A d x) :=
    ⟨fun i H' hi ⟨A, q⟩ => wk.go i H' A A hi q, fun H' ⟨A, q⟩ => wk.stop H' A A q, fun i H' x H'' hi ⟨A, q⟩ y => by
      obtain ⟨s, d, hd, _⟩ := wk.yld i H' A A x H'' hi q y
      refine ⟨s, d, hd, fun A2 q2 => ?_⟩
      obtain ⟨_, d2, hd2, h2⟩ := wk.yld i H' A2 A2 x H'' hi q2 y
      rw [hd] at hd2
      cases hd2
      exact h2⟩
  refine for_it (g := fun v σ H K => ∃ kp, gD (F.keeps kp) t v σ H K) (tb := fun E σ H => ∃ kp, tSs (F.keeps kp) W new sb E σ H) (D := E) walk (fun i σ H => ∃ e B, SI (F.keeps kp) σ H e B ∧ Wish F W new (forL fb (ds.drop i) e B) E) ⟨e, B1, I1', h⟩
    (fun i σ H _ ⟨e, B, I, _⟩ => ⟨Av (F.keeps kp) σ e, fun p hp => I.kp p (List.mem_append_left _ hp)⟩) ?_ ?_
  · rintro i x σ H2 H3 hi ⟨e2, B2, I2, h2⟩ ⟨sm, d, hd, hx⟩
    have hdrop : ds.drop i = d :: ds.drop (i + 1) := by
      rw [List.drop_eq_getElem_cons hi]
      rw [List.getElem?_eq_getElem hi] at hd
      rw [Option.some.inj hd]
    rw [hdrop] at h2
    simp only [forL] at h2
    have I3 := I2.step (I2.here.same sm)
    have hx := hx (Av (F.keeps kp) σ e2) fun p hp => I2.kp p (List.mem_append_left _ hp)
    cases q : bindT t d e2 with
    | none =>
      have : fb d e2 B2 = .stuck := by show (match bindT t d e2 with | some τ => _ | none => _) = _; rw [q]
      rw [this] at h2
      exact h2.elim
    | some τ =>
      have e1 : fb d e2 B2 = evSs F.Γ sb τ B2 := by show (match bindT t d e2 with | some τ => _ | none => _) = _; rw [q]
      rw [e1] at h2
      refine ⟨kp, e2, B2, d, τ, I3, hx, q, fun σ' I' _ _ _ => ⟨kp, τ, B2, I', ?_⟩⟩
      show Wish (F.keeps kp) W new (evSs F.Γ sb τ B2) _
      cases q2 : evSs F.Γ sb τ B2 with
      | stuck => rw [q2] at h2; exact h2
      | err c => rw [q2] at h2; exact h2
      | ok pr =>
        obtain ⟨y, B4⟩ := pr
        rw [q2] at h2
        cases y with
        | nx e4 => exact fun σ' H' I' => ⟨e4, B4, I', h2⟩
        | rt d => exact fun v H' r => h2 v H' ⟨r.ext, r.bag, r.dv, r.new⟩
  · rintro σ H2 ⟨e2, B2, I2, h2⟩
    rw [List.drop_length] at h2
    simp only [forL] at h2
    exact h2 σ H2 I2.drop
/-! ### raise -/
theorem s_raise {C : Addr} {bmB : List Value} {Bn newId initId : String} {x msg : Str} {j n : Nat} {p4 : Pos} (hc : X.calm = true) (tk : Tk X F W) (Fb : ExcBaseFacts Bn newId initId bmB) (q : PySem.W.excIn X.K C bmB newId = true) (gC : X.mg x = some (.ref C)) (kC : PySem.W.keepIn X.K (.ref C) = true) (r : Raises X (.ref C)) (hg : Gl X x)
    (hdb : (x == ("__debug__" : Str)) = false) (hn : F.cls n = C) : PS X (.Raise (some (.Call (.Name x p) [.Constant (.str msg) j p2] [] p3)) none p4) (tS F W new (.raise n)) := by
  obtain ⟨W', t', hW⟩ := tk
  refine (L2N.ps_raise hc t' (L2N.pmk_own Fb q gC kC r hg hdb)).imp fun E σ H ⟨e, B, I, A⟩ => ?_
  simp only [evS] at A
  rw [← hn]
  exact hW n σ H (A H I.ext)
end
end PD
set_option linter.all false
set_option maxRecDepth 100000
set_option maxHeartbeats 1000000
/-! Statements and readings of a dict in a slot. -/
namespace PD
open PySem PySem.Spec PyProof.Rows L2
def codeLike (q : Str) : Obj := { cls := .none, data := .fields #[.none, .str q 0] }
def codeHeap (c : Addr) (q : Str) : Heap := { objs := Array.replicate (c + 1) (codeLike q) }
theorem codeHeap_get (c a : Addr) (q : Str) : (codeHeap c q).get? a = if a < c + 1 then some (codeLike q) else none := by
  unfold Heap.get? codeHeap
  simp only [Array.getElem?_replicate]
  by_cases z : a < c + 1
  · simp only [if_pos z]; rfl
  · simp only [if_neg z]
theorem DictO.nc {b c : Addr} {xs : List Ent} {q : Str} : DictO b xs ≠ LamX.CodeO c q := fun h => by
  unfold DictO LamX.CodeO at h
  injection h with h
  have h2 : ∃ (oc : Obj) (vs : Array Value) (t : Tok), (codeHeap c q).get? c = some oc ∧ oc.data = Data.fields vs ∧ vs[1]? = some (Value.str q t) := ⟨codeLike q, _, 0, by rw [codeHeap_get, if_pos (Nat.lt_succ_self c)], rfl, rfl⟩
  have h1 : DictI (codeHeap c q) b xs = _ := congrFun h (codeHeap c q)
  rw [← h1] at h2
  obtain ⟨_, _, us, _, o, es, ep, q1, _, q2, _⟩ := h2
  rw [codeHeap_get] at q1
  split at q1
  · cases q1; cases q2
  · cases q1
theorem Ext.dict {T : List (Addr × Str)} {M : Addr → Prop} {H : Hp} {b : Addr} {xs ys : List Ent} (h : H b = some (DictO b xs)) (m : M b) : Ext T M H (upd H b (DictO b ys)) := by
  have k : ∀ a u, H a = some u → u ≠ DictO b xs → upd H b (DictO b ys) a = some u := fun a u e n => by
    have ne : a ≠ b := fun z => by rw [z, h] at e; cases e; exact n rfl
    rw [upd_ne ne]; exact e
  refine ⟨fun a u e n t => ?_, fun a xs e => k a _ e (fun z => DictO.nu z.symm), fun a u w e => k a _ e (fun z => DictO.nf z.symm), fun t p hp => ?_⟩
  · have ne : a ≠ b := fun z => n (by rw [z]; exact m)
    rw [upd_ne ne]; exact e
  · obtain ⟨ps, h1, h2, h3⟩ := t p hp
    refine ⟨ps, k _ _ h1 (fun z => DictO.nt z.symm), h2, fun pos cv hc => ?_⟩
    obtain ⟨c, e1, e2⟩ := h3 pos cv hc
    exact ⟨c, e1, k _ _ e2 (fun z => DictO.nc z.symm)⟩
section
variable {F : Fx} {W : Nat → Hp → Prop} {σ : Slots} {H H1 H' : Hp} {e : SEnv} {B B' : Bg}
/-- a dict written leaves all that is known of other things -/
theorem dict_thru {K : PySem.W.Frag} {A : Addr → Prop} {a : Addr} {xs ys : List Ent} (hx : H a = some (DictO a xs)) : Thru K H (upd H a (DictO a ys)) A A := by
  have k : ∀ b u, H b = some u → u ≠ DictO a xs → upd H a (DictO a ys) b = some u := fun b u q n => by
    have ne : b ≠ a := fun z => by rw [z, hx] at q; cases q; exact n rfl
    rw [upd_ne ne]; exact q
  refine ⟨fun b ys q => ?_, fun b ys q => ?_⟩
  · rcases q with q | ⟨o, q⟩ | q
    · exact .inl ⟨k b _ q.1 (fun z => DictO.nl z.symm), q.2⟩
    · exact .inr (.inl ⟨o, k b _ q (fun z => DictO.nf z.symm)⟩)
    · exact .inr (.inr q)
  · rcases q with (q | ⟨o, q⟩) | q
    · exact .inl (.inl (k b _ q (fun z => DictO.nu z.symm)))
    · exact .inl (.inr ⟨o, k b _ q (fun z => DictO.nf z.symm)⟩)
    · exact .inr q
theorem SI.wrD (I : SI F σ H e B) {i : Nat} {kvs kvs' : List (List Int × D)} {a : Addr} {xs xs' : List Ent} (he : e[i]? = some (.dic kvs)) (hs : σ[i]? = some (some (.ref a))) (hx : H a = some (DictO a xs)) (z : xs'.length ≤ sizeLine)
    (t : DicR F.K H (Av F σ e) kvs' xs') (hk : KeysOk F.K H xs') : SI F σ (upd H a (DictO a xs')) (e.set i (.dic kvs')) B := by
  have hi : i < e.length := (List.getElem?_eq_some_iff.mp he).1
  have ne_ : ∀ {j : Nat}, j ≠ i → (e.set i (.dic kvs'))[j]? = e[j]? := fun n => by rw [List.getElem?_set, if_neg (fun w => n w.symm)]
  have at_ : (e.set i (.dic kvs'))[i]? = some (.dic kvs') := by rw [List.getElem?_set, if_pos rfl, if_pos hi]
  have ow : ∀ j, Own (e.set i (.dic kvs')) j ↔ Own e j := fun j => by
    by_cases hj : j = i
    · subst hj
      unfold Own
      rw [at_, he]
      constructor
      · rintro (q | ⟨_, q⟩) <;> cases q
      · rintro (q | ⟨_, q⟩) <;> cases q
    · unfold Own; rw [ne_ hj]
  have bg : ∀ j : Nat, ((e.set i (.dic kvs'))[j]? = some Sl.bag) ↔ (e[j]? = some Sl.bag) := fun j => by
    by_cases hj : j = i
    · subst hj
      rw [at_, he]
      exact ⟨fun h => (by cases h), fun h => (by cases h)⟩
    · rw [ne_ hj]
  have av : ∀ x, Av F σ (e.set i (.dic kvs')) x ↔ Av F σ e x := fun x => by
    constructor
    · rintro (h | ⟨j, h1, h2⟩)
      · exact .inl h
      · exact .inr ⟨j, (ow j).mp h1, h2⟩
    · rintro (h | ⟨j, h1, h2⟩)
      · exact .inl h
      · exact .inr ⟨j, (ow j).mpr h1, h2⟩
  have bm : ∀ x, Bm σ (e.set i (.dic kvs')) x ↔ Bm σ e x := fun x => ⟨fun ⟨j, h1, h2⟩ => ⟨j, (bg j).mp h1, h2⟩, fun ⟨j, h1, h2⟩ => ⟨j, (bg j).mpr h1, h2⟩⟩
  have x : Ext F.T (fun b => b = a) H (upd H a (DictO a xs')) := .dict hx rfl
  have th0 : Thru F.K H (upd H a (DictO a xs')) (Av F σ e) (Av F σ e) := dict_thru hx
  have th : Thru F.K H (upd H a (DictO a xs')) (Av F σ e) (Av F σ (e.set i (.dic kvs'))) := ⟨fun b ys q => (th0.l b ys q).less fun y q => (av y).mp q, th0.t⟩
  obtain ⟨hO, a', xs0, q1, q2, q3, q4, q5, nw, un⟩ := I.dic i kvs he
  rw [hs] at q1
  cases q1
  have ne : ∀ {b : Addr}, ¬ b = a → (upd H a (DictO a xs')) b = H b := fun n => upd_ne n
  have nl : ∀ {b : Addr} {ys : List V}, H b = some (.lst ys) → ¬ b = a := fun q w => by rw [w, hx] at q; exact DictO.nl (Option.some.inj q)
  refine ⟨by rw [List.length_set]; exact I.len, ⟨fun b o h n t => ?_, fun b ys h => x.tups b ys (I.ext.tups b ys h), fun b o u h => x.frzs b o u (I.ext.frzs b o u h), fun h => x.tabs (I.ext.tabs h)⟩, x.tabs I.tabs, fun b q => ?_, fun j d q => ?_, fun j es q => ?_, fun j q => ?_, fun j k b h1 h2 => I.inj j k b ((ow j).mp h1) ((ow k).mp h2), fun j k h1 h2 => I.one j k ((bg j).mp h1) ((bg k).mp h2), fun b h => ?_, fun p hp => (I.kp p hp).thru th th, fun j kws q => ?_, fun j c fs q => ?_⟩
  · have n' : ¬ b = a := fun z => by rw [z] at h; exact nw.no h t
    rw [ne n']
    exact I.ext.keep b o h n t
  · by_cases n : b = a
    · rw [n]; exact ⟨_, upd_same, fun ps => DictO.nt⟩
    · obtain ⟨o, h1, h2⟩ := I.dom' b q
      exact ⟨o, by rw [ne n]; exact h1, h2⟩
  · have hj : j ≠ i := fun w => by rw [w, at_] at q; cases q
    rw [ne_ hj] at q
    obtain ⟨v, e1, h1⟩ := I.val j d q
    exact ⟨v, e1, Dv.thru th d h1⟩
  · have hj : j ≠ i := fun w => by rw [w, at_] at q; cases q
    rw [ne_ hj] at q
    obtain ⟨h0, b, ys, e1, e2, e3, e4, e5, e6⟩ := I.own j es q
    exact ⟨h0, b, ys, e1, by rw [ne (nl e2)]; exact e2, e3, DvAll.thru th es e4, e5, fun q => e6 (q.elim .inl fun q => .inr ((bm b).mp q))⟩
  · have q' := (bg j).mp q
    obtain ⟨h0, b, e1, e2, e3⟩ := I.bag j q'
    exact ⟨h0, b, e1, by rw [ne (nl e2)]; exact e2, e3⟩
  · obtain ⟨j, h1, h2⟩ := I.b0 b h
    exact ⟨j, (bg j).mpr h1, h2⟩
  · by_cases hj : j = i
    · subst hj
      rw [at_] at q
      cases q
      refine ⟨hO, a, xs', hs, upd_same, z, t.thru th, hk.thru th.t, nw, fun k kws q1 q2 => ?_⟩
      by_cases hk : k = j
      · exact hk
      · rw [ne_ hk] at q1
        exact un k kws q1 q2
    · rw [ne_ hj] at q
      obtain ⟨h0, b, ys, e1, e2, e3, e4, e5, e6, e7⟩ := I.dic j kws q
      have n : ¬ b = a := fun w => hj (by rw [w] at e1; exact un j kws q e1)
      refine ⟨h0, b, ys, e1, by rw [ne n]; exact e2, e3, e4.thru th, e5.thru th.t, e6, fun k kws2 q1 q2 => ?_⟩
      by_cases hk : k = i
      · subst hk
        exact absurd (by rw [hs] at q2; cases q2; rfl) n
      · rw [ne_ hk] at q1
        exact e7 k kws2 q1 q2
  · have hj : j ≠ i := fun w => by rw [w, at_] at q; cases q
    rw [ne_ hj] at q
    obtain ⟨h0, e1, e2⟩ := I.ins j c fs q
    exact ⟨h0, e1, e2.thru th fun C dx gs q => by
      have n : ¬ c = a := fun w => by rw [w, hx] at q; exact DictO.ni (Option.some.inj q)
      rw [ne n]; exact q⟩
/-- a slot gets a new dict -/
theorem SI.newD (I : SI F σ H e B) {i : Nat} {a : Addr} (hO : i ∈ F.O) (hi : i < e.length) (nb : e[i]? ≠ some .bag) (hn : H a = none) : SI F (σ.set i (some (.ref a))) (upd H a (DictO a [])) (e.set i (.dic [])) B := by
  have ne_ : ∀ {j : Nat}, j ≠ i → (e.set i (.dic []))[j]? = e[j]? := fun n => by rw [List.getElem?_set, if_neg (fun w => n w.symm)]
  have nes : ∀ {j : Nat}, j ≠ i → (σ.set i (some (.ref a)))[j]? = σ[j]? := fun n => by rw [List.getElem?_set, if_neg (fun w => n w.symm)]
  have at_ : (e.set i (.dic []))[i]? = some (.dic []) := by rw [List.getElem?_set, if_pos rfl, if_pos hi]
  have ats : (σ.set i (some (.ref a)))[i]? = some (some (.ref a)) := by rw [List.getElem?_set, if_pos rfl, if_pos (by rw [← I.len]; exact hi)]
  have sm : Same H (upd H a (DictO a [])) := same_new hn
  have I1 := I.step (I.here.same sm)
  have Own' : ∀ {j : Nat}, Own (e.set i (.dic [])) j → j ≠ i ∧ Own e j := fun {j} h => by
    by_cases hj : j = i
    · unfold Own at h
      rw [hj, at_] at h
      rcases h with h | ⟨_, h⟩ <;> cases h
    · unfold Own at h ⊢
      rw [ne_ hj] at h
      exact ⟨hj, h⟩
  have bag' : ∀ {j : Nat}, (e.set i (.dic []))[j]? = some .bag → j ≠ i ∧ e[j]? = some .bag := fun {j} h => by
    have hj : j ≠ i := fun w => by rw [w, at_] at h; cases h
    rw [ne_ hj] at h
    exact ⟨hj, h⟩
  have av : ∀ x, Av F (σ.set i (some (.ref a))) (e.set i (.dic [])) x → Av F σ e x := fun x h => by
    rcases h with h | ⟨j, h1, h2⟩
    · exact .inl h
    · obtain ⟨n, h1⟩ := Own' h1
      rw [nes n] at h2
      exact .inr ⟨j, h1, h2⟩
  have bm : ∀ x, Bm (σ.set i (some (.ref a))) (e.set i (.dic [])) x → Bm σ e x := fun x ⟨j, h1, h2⟩ => by
    obtain ⟨n, h1⟩ := bag' h1
    rw [nes n] at h2
    exact ⟨j, h1, h2⟩
  refine ⟨by rw [List.length_set, List.length_set]; exact I.len, I1.ext, I1.tabs, I1.dom', fun j d q => ?_, fun j es q => ?_, fun j q => ?_, fun j k b h1 h2 h3 h4 => ?_, fun j k h1 h2 => I.one j k (bag' h1).2 (bag' h2).2, fun b h => ?_, fun p hp => (I1.kp p hp).thru (.less av) (.less av), fun j kws q => ?_, fun j c fs q => ?_⟩
  · have hj : j ≠ i := fun w => by rw [w, at_] at q; cases q
    rw [ne_ hj] at q
    obtain ⟨v, e1, h1⟩ := I1.val j d q
    exact ⟨v, by rw [nes hj]; exact e1, h1.less av⟩
  · have hj : j ≠ i := fun w => by rw [w, at_] at q; cases q
    rw [ne_ hj] at q
    obtain ⟨h0, b, ys, e1, e2, e3, e4, e5, e6⟩ := I1.own j es q
    exact ⟨h0, b, ys, by rw [nes hj]; exact e1, e2, e3, e4.less av, e5, fun w => e6 (w.elim .inl fun w => .inr (bm b w))⟩
  · obtain ⟨hj, q⟩ := bag' q
    obtain ⟨h0, b, e1, e2, e3⟩ := I1.bag j q
    exact ⟨h0, b, by rw [nes hj]; exact e1, e2, e3⟩
  · obtain ⟨n1, h1⟩ := Own' h1
    obtain ⟨n2, h2⟩ := Own' h2
    rw [nes n1] at h3
    rw [nes n2] at h4
    exact I.inj j k b h1 h2 h3 h4
  · obtain ⟨j, h1, h2⟩ := I.b0 b h
    have hj : j ≠ i := fun w => nb (by rw [← w]; exact h1)
    exact ⟨j, by rw [ne_ hj]; exact h1, by rw [nes hj]; exact h2⟩
  · by_cases hj : j = i
    · subst hj
      rw [at_] at q
      cases q
      refine ⟨hO, a, [], ats, upd_same, Nat.zero_le _, .nil, fun x hx => (by cases hx), I.nw (.of hn), fun k kws q1 q2 => ?_⟩
      by_cases hk : k = j
      · exact hk
      · rw [ne_ hk] at q1
        rw [nes hk] at q2
        obtain ⟨_, b, ys, e1, e2, _⟩ := I.dic k kws q1
        rw [q2] at e1; cases e1
        rw [hn] at e2; cases e2
    · rw [ne_ hj] at q
      obtain ⟨h0, b, ys, e1, e2, e3, e4, e5, e6, e7⟩ := I1.dic j kws q
      refine ⟨h0, b, ys, by rw [nes hj]; exact e1, e2, e3, e4.less av, e5, e6, fun k kws2 q1 q2 => ?_⟩
      by_cases hk : k = i
      · subst hk
        rw [ats] at q2
        cases q2
        obtain ⟨_, b', ys', e1', e2', _⟩ := I.dic j kws q
        rw [e1'] at e1; cases e1
        rw [hn] at e2'; cases e2'
      · rw [ne_ hk] at q1
        rw [nes hk] at q2
        exact e7 k kws2 q1 q2
  · have hj : j ≠ i := fun w => by rw [w, at_] at q; cases q
    rw [ne_ hj] at q
    obtain ⟨h0, e1, e2⟩ := I1.ins j c fs q
    exact ⟨h0, by rw [nes hj]; exact e1, e2.less av⟩
end
/-- a key's value -/
theorem Dv.key {K : PySem.W.Frag} {H : Hp} {A : Addr → Prop} {d : D} {v : V} {ks : List Int} (h : Di K H A d v) (hk : keyI d = some ks) : ∃ b, v = .ref b ∧ SqT K H b (ks.map V.int) := by
  cases d with
  | tuple ds =>
    obtain ⟨b, xs, rfl, h1, _, h2⟩ := h.t
    refine ⟨b, rfl, ?_⟩
    have := DvAll.ints (ds := ds) (vs := xs) h2 hk
    rw [← this]; exact h1
  | _ => cases hk
section
variable {X : Cx} {F : Fx} {W : Nat → Hp → Prop} {new : Bool} {pos pos' p p2 spos : Pos} {a k : Expr} {m mk : ME} {i : Nat} {x : Str}
theorem d_dget (hK : X.K = F.K) (hu : X.A.units + 1 < cLine) (hN : X.N[i]? = some x) (hv : Vis X.env.scope x) (hd : (x == ("__debug__" : Str)) = false) (hcd : (x == ("__classdict__" : Str)) = false) (hk : PE X k (tD F W mk)) (hs : NoSl k) :
    PE X (.Subscript (.Name x p) k pos) (tD F W (.dget i mk)) := by
  refine (pe_dIget hu (pe_var hN hv hd hcd) hk hs).imp fun σ H Q ⟨e, B, I, A⟩ => ?_
  simp only [ev] at A
  cases ho : e[i]? with
  | none => rw [ho] at A; exact A.elim
  | some s =>
    rw [ho] at A
    cases s with
    | dic kvs =>
      obtain ⟨hO, a', xs, q1, _⟩ := I.dic i kvs ho
      refine ⟨_, q1, e, B, I, A.bind.imp fun d B1 H1 g h v hv => ?_⟩
      have I1 := I.step g
      obtain ⟨_, a2, xs2, r1, r2, r3, r4, r5, r6, _⟩ := I1.dic i kvs ho
      rw [q1] at r1
      cases r1
      obtain ⟨d2, h2, h3⟩ := h.ofO
      cases hkk : keyI d with
      | none => rw [hkk] at h2; cases h2
      | some ks =>
        rw [hkk] at h2
        obtain ⟨b, rfl, hb⟩ := Dv.key hv.di hkk
        obtain ⟨w, hw, dw⟩ := r4.get (k := ks) (d := d2) h2
        rw [hK]
        exact ⟨a', xs2, b, ks, w, rfl, rfl, r2, r5, hb, hw, h3 H1 I1.here w (.mk' (b := true) rfl rfl dw)⟩
    | _ => exact False.elim A
theorem s_dset (hK : X.K = F.K) (hu : X.A.units + 1 < cLine) (hN : X.N[i]? = some x) (hv : Vis X.env.scope x) (hd : (x == ("__debug__" : Str)) = false) (hcd : (x == ("__classdict__" : Str)) = false) (hk : PE X k (tD F W mk)) (ha : PE X a (tD F W m)) (hsf : sf F.O m = true)
    (hs : swapsWith a (some (.Subscript (.Name x p) k pos')) pos.line X.env = pure false) : PS X (.Assign [.Subscript (.Name x p) k pos'] a pos) (tS F W new (.dset i mk m)) := by
  refine (ps_dIput hu (pe_var hN hv hd hcd) hk ha hs).imp fun E σ H ⟨e, B, I, A⟩ => ?_
  simp only [evS] at A
  refine ⟨e, B, I, (A.after I).imp fun d B1 H1 g h v hv => ?_⟩
  have I1 := I.step g
  cases ho : e[i]? with
  | none => rw [ho] at h; exact h.elim
  | some s =>
    rw [ho] at h
    cases s with
    | dic kvs =>
      obtain ⟨hO, a', xs, q1, _⟩ := I1.dic i kvs ho
      refine ⟨_, q1, e, B1, I1, (Wish.after h I1).imp fun y B2 H2 g2 h2 w hw => ?_⟩
      have I2 := I1.step g2
      obtain ⟨_, a2, xs2, r1, r2, r3, r4, r5, r6, _⟩ := I2.dic i kvs ho
      rw [q1] at r1
      cases r1
      cases hkk : keyI y with
      | none => rw [hkk] at h2; exact h2.elim
      | some ks =>
        rw [hkk] at h2
        simp only at h2
        split at h2
        · rename_i hl
          obtain ⟨b, rfl, hb⟩ := Dv.key hw.di hkk
          have hvv := (hv.go g2).dv
          rw [hsf] at hvv
          have hl2 : xs2.length < 1000 := by rw [← r4.length]; exact hl
          have hz : sizeLine = sizeLine := rfl
          rw [hK]
          refine ⟨a', xs2, b, ks, rfl, rfl, r2, r5, hb, by rw [sizeLine_eq]; omega, h2 _ _ (I2.wrD ho q1 r2 ?_ (r4.put ks b hvv) (keys_putX r5 hb))⟩
          have := length_putX xs2 ks b v
          rw [sizeLine_eq]; omega
        · exact h2.elim
    | _ => exact False.elim h
/-- a field of an instance in a slot -/
theorem d_fld {f : Str} (hK : X.K = F.K) (hN : X.N[i]? = some x) (hv : Vis X.env.scope x) (hd : (x == ("__debug__" : Str)) = false) (hcd : (x == ("__classdict__" : Str)) = false) :
    PE X (.Attribute (.Name x p) f pos) (tD F W (.fld i f)) := by
  refine (pe_fld (pe_var hN hv hd hcd) rfl).imp fun σ H Q ⟨e, B, I, A⟩ => ?_
  simp only [ev] at A
  cases ho : e[i]? with
  | none => rw [ho] at A; exact A.elim
  | some s =>
    rw [ho] at A
    cases s with
    | ins a fs =>
      obtain ⟨hO, q1, C, dx, gs, h1, h2, h3⟩ := I.ins i a fs ho
      obtain ⟨d, hd, h⟩ := A.ofO
      obtain ⟨n, v, l, dv⟩ := h3 f d hd
      refine ⟨_, q1, a, C, dx, gs, v, rfl, h1, by rw [hK]; exact h2, by rw [hK]; exact n, l, ?_⟩
      exact h H I.here v (.mk' (b := true) rfl rfl dv)
    | _ => exact False.elim A
/-- name = {} -/
theorem s_dnew {st : Stmt} {tc : TE} (hp : PS X st (tAsg tc (gName i))) (hc : ∀ σ H Q, tDI σ H Q → tc σ H Q) (hO : i ∈ F.O) : PS X st (tS F W new (.dnew i)) := by
  refine hp.imp fun E σ H ⟨e, B, I, A⟩ => hc σ H _ fun q hq => ?_
  simp only [evS] at A
  cases ho : e[i]? with
  | none => rw [ho] at A; exact A.elim
  | some s =>
    have hi : i < e.length := (List.getElem?_eq_some_iff.mp ho).1
    rw [ho] at A
    have nb : s ≠ .bag := fun z => by rw [z] at A; exact A
    have A' : ∀ σ' H', SI F σ' H' (e.set i (.dic [])) B → E.nx σ' H' := by
      cases s with
      | bag => exact absurd rfl nb
      | _ => exact A
    exact A' _ _ (I.newD hO hi (by rw [ho]; intro w; cases w; exact nb rfl) hq)
end
end PD
set_option linter.all false
set_option maxRecDepth 100000
set_option maxHeartbeats 1000000
/-! From text to the evaluator's forms: expressions. -/
namespace PD
open PySem PySem.Spec PyProof.Rows L2
/-- what is known of a def's text: its slots, scope, written slots, whether it hands back a new list, the bag's slot; defs by name (number, parameters, bag, new), constants, own exceptions, built-ins that no module hides -/
structure Ct where
  N : List Str
  sc : Scope
  top : Bool
  O : List Nat
  new : Bool
  bag : Option Nat
  sb : Bool
  fns : List (Str × Nat × Nat × Bool × Bool)
  gcs : List (Str × Nat)
  excs : List (Str × Nat)
  blts : List Str
  lams : List (Str × Bool) := []
  dics : List Nat := []
  inss : List Nat := []
def grd {α : Type} (b : Bool) (x : Option α) : Option α := if b = true then x else none
theorem grd_some {α : Type} {b : Bool} {x : Option α} {y : α} : grd b x = some y ↔ b = true ∧ x = some y := by
  unfold grd
  cases b <;> simp
def slotOf : List Str → Str → Option Nat
  | [], _ => none
  | y :: r, x => if x = y then some 0 else (slotOf r x).map (· + 1)
theorem slotOf_get : ∀ {N : List Str} {x : Str} {i : Nat}, slotOf N x = some i → N[i]? = some x
  | [], _, _, h => by simp [slotOf] at h
  | y :: r, x, i, h => by
    unfold slotOf at h
    split at h
    · rename_i e
      cases h
      rw [e]; rfl
    · obtain ⟨j, hj, rfl⟩ := Option.map_eq_some_iff.mp h
      exact slotOf_get (N := r) hj
def okName (x : Str) : Bool := !(x == ("__debug__" : Str)) && !(x == ("__classdict__" : Str)) && !(x == ("__name__" : Str))
def visB (sc : Scope) (x : Str) : Bool := match sc.names.lookup x with
  | some .local => true
  | some .cell => true
  | some .free => true
  | _ => false
def glB (sc : Scope) (x : Str) : Bool := match sc.names.lookup x with
  | some .globalImplicit => true
  | _ => false
theorem visB_vis {sc : Scope} {x : Str} (h : visB sc x = true) : Vis sc x := by
  unfold visB at h
  split at h
  · exact .inl (by assumption)
  · exact .inr (.inl (by assumption))
  · exact .inr (.inr (by assumption))
  · cases h
theorem glB_gl {sc : Scope} {x : Str} (h : glB sc x = true) : sc.names.lookup x = some .globalImplicit := by
  unfold glB at h
  split at h
  · assumption
  · cases h
theorem okName_1 {x : Str} (h : okName x = true) : (x == ("__debug__" : Str)) = false ∧ (x == ("__classdict__" : Str)) = false ∧ x ≠ "__name__" := by
  simp only [okName, Bool.and_eq_true, Bool.not_eq_true'] at h
  exact ⟨h.1.1, h.1.2, fun e => by rw [e] at h; simp at h⟩
def bltTys : List (Str × String × BltO) := [("int", "int", .int), ("str", "str", .str), ("tuple", "tuple", .tuple), ("list", "list", .list), ("bool", "bool", .bool)]
def bltFns : List (Str × String × BltO) := [("len", "len", .len), ("abs", "abs", .abs), ("sum", "sum", .sum), ("any", "any", .any), ("all", "all", .all), ("sorted", "sorted", .sorted)]
def tyNames : List (Str × Ty) := [("int", .int), ("bool", .bool), ("str", .str), ("tuple", .tuple), ("list", .list)]
/-- the context of a lambda's body -/
def lamN (X : Cx) (A : Around) (outer : List Env) (s : Shared) (H : Hp) (E : XK) (scope : Scope) (f c' : Addr) : Cx :=
  (LamX.lamCx X A outer s H E scope f c').wish fun e s' => wpAny (model X.prog X.w) (A.deeper (LamX.lamEnv X scope s.heap.objs.size f c')) (leaving (LamX.lamEnv X scope s.heap.objs.size f c') e) (fun _ s2 => L2N.CX X.prog X.w outer H s E e s2) (fun e2 s2 => L2N.CX X.prog X.w outer H s E e2 s2) s'
/-- x(lambda: body): how a call of the def x that names, or tells, the error of what it gets is read -/
def lamE (b : Bool) (m : ME) : ME := match b with
  | false => .lerr m
  | true => .ltold m
def LamRule (X : Cx) (F : Fx) (x : Str) (lb : Bool) (k : Nat) : Prop := ∀ (body : Expr) (scope : Scope) (lpos p pos : Pos) (m : ME) (W : Nat → Hp → Prop), LamX.LamS X.env.scope scope →
  (∀ (A0 : Addr → Prop) (A : Around) (outer : List Env) (s : Shared) (H : Hp) (E : XK) (f c' : Addr), Room k (A.deeper (LamX.lamEnv X scope s.heap.objs.size f c')) → PE (lamN X A outer s H E scope f c') body (tD { F with A0 := A0 } (fun c H' => E (.ref (F.cls c)) none H') m)) →
  PE X (.Call (.Name x p) [.Lambda ⟨[], [], none, [], [], none, []⟩ body scope lpos] [] pos) (tD F W (lamE lb m))
/-- what the text may lean on -/
structure Gd (X : Cx) (F : Fx) (W : Nat → Hp → Prop) (C : Ct) : Prop where
  N : X.N = C.N
  nd : X.N.Nodup
  sc : X.env.scope = C.sc
  top : C.top = true → ∀ x, X.fn x = true
  calm : X.calm = true
  K : X.K = F.K
  O : F.O = C.O
  un : X.A.units + 65 < cLine
  tk : Tk X F W
  fn : ∀ x f np new, C.fns.lookup x = some (f, np, false, new) → ∃ k g fd ps, FnOk X.prog X.w X.K X.mg X.base (L2N.CX X.prog X.w) k g fd ps (spP F.T F.cls F.Γ.call new X.K f np) ∧ Room k X.A ∧ X.mg x = some (.ref g) ∧ PySem.W.keepIn X.K (.ref g) = true ∧ Binds X.K fd ps []
  fb : ∀ x f np new, C.fns.lookup x = some (f, np, true, new) → ∃ k g fd ps, FnOk X.prog X.w X.K X.mg X.base (L2N.CX X.prog X.w) k g fd ps (spB F.T F.cls F.Γ.callb X.K f np) ∧ Room k X.A ∧ X.mg x = some (.ref g) ∧ PySem.W.keepIn X.K (.ref g) = true ∧ Binds X.K fd ps []
  gc : ∀ x n, C.gcs.lookup x = some n → ∃ v u, X.mg x = some u ∧ RelV v u ∧ ∀ H A, Dv F.K H A (F.Γ.gc n) v
  bl : ∀ x, C.blts.contains x = true → X.mg x = none
  lam : ∀ x lb, C.lams.lookup x = some lb → ∃ k0, (∀ kp, LamRule X { F with kp := kp } x lb k0) ∧
    (∀ x f np new, C.fns.lookup x = some (f, np, false, new) → ∃ k g fd ps, FnOk X.prog X.w X.K X.mg X.base (L2N.CX X.prog X.w) k g fd ps (spP F.T F.cls F.Γ.call new X.K f np) ∧ k ≤ k0 ∧ X.mg x = some (.ref g) ∧ PySem.W.keepIn X.K (.ref g) = true ∧ Binds X.K fd ps []) ∧
    (∀ x f np new, C.fns.lookup x = some (f, np, true, new) → ∃ k g fd ps, FnOk X.prog X.w X.K X.mg X.base (L2N.CX X.prog X.w) k g fd ps (spB F.T F.cls F.Γ.callb X.K f np) ∧ k ≤ k0 ∧ X.mg x = some (.ref g) ∧ PySem.W.keepIn X.K (.ref g) = true ∧ Binds X.K fd ps [])
theorem Gd.gl {X : Cx} {F : Fx} {W : Nat → Hp → Prop} {C : Ct} (G : Gd X F W C) {x : Str} (h : glB C.sc x = true) : Gl X x := by
  show X.env.scope.names.lookup x = _
  rw [G.sc]; exact glB_gl h
theorem Gd.vis {X : Cx} {F : Fx} {W : Nat → Hp → Prop} {C : Ct} (G : Gd X F W C) {x : Str} (h : visB C.sc x = true) : Vis X.env.scope x := by
  rw [G.sc]; exact visB_vis h
theorem Gd.slot {X : Cx} {F : Fx} {W : Nat → Hp → Prop} {C : Ct} (G : Gd X F W C) {x : Str} {i : Nat} (h : slotOf C.N x = some i) : X.N[i]? = some x := by
  rw [G.N]; exact slotOf_get h
abbrev Rec := Ct → Expr → Option (ME × Bool)
/-- Rec is right -/
def Snd (r : Rec) : Prop := ∀ (X : Cx) (F : Fx) (W : Nat → Hp → Prop) (C : Ct) (e : Expr) (m : ME) (b : Bool), Gd X F W C → r C e = some (m, b) → PE X e (tD F W m) ∧ (b = true → PT X e (tT F W m))
section
variable (r : Rec)
def cName (C : Ct) (x : Str) : Option ME := grd (okName x) (if visB C.sc x = true then (slotOf C.N x).map .var else grd (glB C.sc x) ((C.gcs.lookup x).map .gcon))
def cConst : Const → Option ME
  | .none => some (.con .none)
  | .bool b => some (.con (.bool b))
  | .int i => some (.con (.int i))
  | .str x => some (.con (.str x))
  | _ => none
def cEs (C : Ct) : List Expr → Option MEs
  | [] => some .nil
  | e :: es => grd (plainE e) ((r C e).bind fun m => (cEs C es).map fun ms => .cons m.1 ms)
def cB (C : Ct) (op : BoolOp) : List Expr → Option (ME × Bool)
  | [] => none
  | [e] => r C e
  | e :: es => (r C e).bind fun m => (cB C op es).map fun n => ((match op with | .And => ME.andv m.1 n.1 | .Or => ME.orv m.1 n.1), m.2 && n.2)
def cO (C : Ct) : Option Expr → Option MO
  | none => some .no
  | some e => (r C e).map fun m => .so m.1
end
def opB : Operator → Option BinO
  | .Add => some .add
  | .Sub => some .sub
  | .Mult => some .mul
  | .FloorDiv => some .fdiv
  | .Mod => some .mod
  | .Pow => some .pow
  | _ => none
def opC : CmpOp → Option CmpO
  | .Eq => some .eq
  | .NotEq => some .ne
  | .Lt => some .lt
  | .LtE => some .le
  | .Gt => some .gt
  | .GtE => some .ge
  | .In => some .isin
  | .NotIn => some .notin
  | .Is => some .is
  | .IsNot => some .isnot
theorem opB_bop {o : Operator} {b : BinO} (h : opB o = some b) : o = bop b := by cases o <;> simp only [opB] at h <;> first | (cases h; rfl) | cases h
theorem opC_cop {o : CmpOp} {b : CmpO} (h : opC o = some b) : o = cop b := by cases o <;> simp only [opC] at h <;> first | (cases h; rfl) | cases h
section
variable {X : Cx} {F : Fx} {W : Nat → Hp → Prop} {C : Ct} {r : Rec}
theorem cName_ok (G : Gd X F W C) {x : Str} {p : Pos} {m : ME} (h : cName C x = some m) : PE X (.Name x p) (tD F W m) := by
  simp only [cName, grd_some] at h
  obtain ⟨hx, h⟩ := h
  obtain ⟨h1, h2, h3⟩ := okName_1 hx
  split at h
  · rename_i hv
    obtain ⟨i, hi, rfl⟩ := Option.map_eq_some_iff.mp h
    exact d_var (G.slot hi) (G.vis hv) h1 h2
  · obtain ⟨hg, h⟩ := grd_some.mp h
    obtain ⟨n, hn, rfl⟩ := Option.map_eq_some_iff.mp h
    obtain ⟨v, u, hm, rv, hd⟩ := G.gc x n hn
    exact d_gcon (pe_glob (G.gl hg) hm rv h1) hd
theorem cConst_ok (G : Gd X F W C) {c : Const} {j : Nat} {p : Pos} {m : ME} (h : cConst c = some m) : PE X (.Constant c j p) (tD F W m) := by
  cases c with
  | none => simp only [cConst, Option.some.injEq] at h; subst h; exact d_con pe_non fun H A => .ofN
  | bool b => simp only [cConst, Option.some.injEq] at h; subst h; exact d_con pe_bl fun H A => .ofB b
  | int i => simp only [cConst, Option.some.injEq] at h; subst h; exact d_con pe_int fun H A => .ofI i
  | str x => simp only [cConst, Option.some.injEq] at h; subst h; exact d_con pe_str fun H A => .ofS x
  | _ => simp only [cConst] at h; cases h
theorem cEs_ok (S : Snd r) (G : Gd X F W C) : ∀ {es : List Expr} {ms : MEs}, cEs r C es = some ms → PA X es (tA F W ms) ∧ es.all plainE = true ∧ ms.len = es.length
  | [], ms, h => by simp only [cEs, Option.some.injEq] at h; subst h; exact ⟨d_nil, rfl, rfl⟩
  | e :: es, ms, h => by
    simp only [cEs, grd_some, Option.bind_eq_some_iff, Option.map_eq_some_iff] at h
    obtain ⟨hp, m, hm, ms', hms, rfl⟩ := h
    obtain ⟨h1, h2, h3⟩ := cEs_ok S G hms
    exact ⟨d_cons (S X F W C e m.1 m.2 G hm).1 h1 (star_plain hp), by simp [hp, h2], by show ms'.len + 1 = es.length + 1; rw [h3]⟩
theorem cB_ok (S : Snd r) (G : Gd X F W C) {op : BoolOp} {p : Pos} : ∀ {es : List Expr} {m : ME} {b : Bool}, cB r C op es = some (m, b) → PE X (.BoolOp op es p) (tD F W m) ∧ (b = true → PW X (.BoolOp op es p) (tT F W m))
  | [], m, b, h => by simp only [cB] at h; cases h
  | [e], m, b, h => by
    simp only [cB] at h
    obtain ⟨h1, h2⟩ := S X F W C e m b G h
    refine ⟨d_bo1 h1, fun hb => ?_⟩
    cases op with
    | And => exact dW_and1 (h2 hb)
    | Or => exact dW_or1 (h2 hb)
  | e :: e2 :: es, m, b, h => by
    rw [cB] at h
    · simp only [Option.bind_eq_some_iff, Option.map_eq_some_iff] at h
      obtain ⟨n, hn, n2, hn2, e1⟩ := h
      cases e1
      obtain ⟨h1, h2⟩ := S X F W C e n.1 n.2 G hn
      obtain ⟨h3, h4⟩ := cB_ok S G (p := p) hn2
      cases op with
      | And => exact ⟨d_and h1 h3, fun hb => by
          simp only [Bool.and_eq_true] at hb
          exact dW_and (h2 hb.1) (h4 hb.2)⟩
      | Or => exact ⟨d_or h1 h3, fun hb => by
          simp only [Bool.and_eq_true] at hb
          exact dW_or (h2 hb.1) (h4 hb.2)⟩
    · intro h; cases h
theorem cO_ok (S : Snd r) (G : Gd X F W C) {e : Option Expr} {m : MO} (h : cO r C e = some m) : PO X e (tOp' F W m) := by
  cases e with
  | none => simp only [cO, Option.some.injEq] at h; subst h; exact do_none
  | some e =>
    simp only [cO, Option.map_eq_some_iff] at h
    obtain ⟨n, hn, rfl⟩ := h
    exact do_some (S X F W C e n.1 n.2 G hn).1
end
end PD
set_option linter.all false
set_option maxRecDepth 100000
set_option maxHeartbeats 1000000
/-! From text to the evaluator's forms: calls, targets, iterables, comprehensions. -/
namespace PD
open PySem PySem.Spec PyProof.Rows L2
theorem asg_plain {a : Expr} {es : List Expr} {env : Env} (h : plainE a = true) : assignEach (a :: es) env = (false, assign a env) :: assignEach es env := by
  cases a <;> first | rfl | cases h
theorem asg_len {env : Env} : ∀ es : List Expr, (assignEach es env).length = es.length
  | [] => rfl
  | a :: es => by
    have ih := asg_len (env := env) es
    cases a <;> (show (assignEach es env).length + 1 = es.length + 1; rw [ih])
theorem asg_find {env : Env} : ∀ {es : List Expr}, es.all plainE = true → (assignEach es env).findIdx? (·.1) = none
  | [], _ => rfl
  | a :: es, h => by
    obtain ⟨h1, h2⟩ := Bool.and_eq_true_iff.mp (List.all_cons ▸ h)
    rw [asg_plain h1, List.findIdx?_cons, asg_find h2]
    rfl
/-! ### targets -/
def locB (C : Ct) (x : Str) : Bool := match C.sc.names.lookup x with
  | some .local => true
  | some .cell => C.top
  | _ => false
theorem locB_ok {X : Cx} {F : Fx} {W : Nat → Hp → Prop} {C : Ct} (G : Gd X F W C) {x : Str} (h : locB C x = true) : Loc X.env.scope x ∧ (X.fn x = true ∨ X.env.scope.names.lookup x = some .local) := by
  rw [G.sc]
  unfold locB at h
  split at h
  · rename_i q
    exact ⟨.inl q, .inr q⟩
  · rename_i q
    exact ⟨.inr q, .inl (G.top h x)⟩
  · cases h
def cGn (C : Ct) (x : Str) : Option Nat := grd (locB C x) ((slotOf C.N x).bind fun i => grd (!C.O.contains i) (some i))
mutual
def cG : Nat → Ct → Expr → Option Tgt
  | n + 1, C, .Name x _ => (cGn C x).map .nm
  | n + 1, C, .Tuple es _ _ => (cGs n C es).map .tp
  | _, _, _ => none
def cGs : Nat → Ct → List Expr → Option (List Tgt)
  | _, _, [] => some []
  | n + 1, C, e :: es => grd (plainE e) ((cG n C e).bind fun t => (cGs n C es).map fun ts => t :: ts)
  | 0, _, _ :: _ => none
end
section
variable {X : Cx} {F : Fx} {W : Nat → Hp → Prop} {C : Ct}
theorem cGn_ok (G : Gd X F W C) {x : Str} {i : Nat} {p : Pos} (h : cGn C x = some i) : PG X (.Name x p) (gD F (.nm i)) := by
  simp only [cGn, grd_some, Option.bind_eq_some_iff] at h
  obtain ⟨h1, j, h2, h3, e⟩ := h
  cases e
  obtain ⟨q1, q2⟩ := locB_ok G h1
  exact g_nm G.nd (G.slot h2) q1 q2 (by rw [G.O]; simpa using h3)
mutual
theorem cG_ok (G : Gd X F W C) : ∀ (n : Nat) {e : Expr} {t : Tgt}, cG n C e = some t → PG X e (gD F t)
  | 0, e, t, h => by cases e <;> simp only [cG] at h <;> cases h
  | n + 1, e, t, h => by
    cases e with
    | Name x p =>
      simp only [cG] at h
      obtain ⟨i, hi, rfl⟩ := Option.map_eq_some_iff.mp h
      exact cGn_ok G hi
    | Tuple es k p =>
      simp only [cG] at h
      obtain ⟨ts, hts, rfl⟩ := Option.map_eq_some_iff.mp h
      obtain ⟨h1, h2, h3⟩ := cGs_ok G n hts
      exact g_tp G.calm G.K h1 (by rw [asg_len, h3]) (asg_find h2)
    | _ => simp only [cG] at h; cases h
theorem cGs_ok (G : Gd X F W C) : ∀ (n : Nat) {es : List Expr} {ts : List Tgt}, cGs n C es = some ts → PGs X es (gDs F ts) ∧ es.all plainE = true ∧ ts.length = es.length
  | n, [], ts, h => by
    cases n <;> (simp only [cGs, Option.some.injEq] at h; subst h; exact ⟨g_nil, rfl, rfl⟩)
  | 0, e :: es, ts, h => by simp only [cGs] at h; cases h
  | n + 1, e :: es, ts, h => by
    simp only [cGs, grd_some, Option.bind_eq_some_iff, Option.map_eq_some_iff] at h
    obtain ⟨hp, t, ht, ts', hts, rfl⟩ := h
    obtain ⟨h1, h2, h3⟩ := cGs_ok G n hts
    exact ⟨g_cons (cG_ok G n ht) h1 (by rw [asg_plain hp]; rfl), by simp [hp, h2], by simp [h3]⟩
end
end
/-! ### built-ins -/
theorem boots_fn : (bltFns.all fun t => decide (bootBuiltins t.1 = some (.builtin t.2.1))) = true := by decide +kernel
theorem boots_ty : (bltTys.all fun t => decide (bootBuiltins t.1 = some (.type t.2.1))) = true := by decide +kernel
theorem boots_tn : (tyNames.all fun t => decide (bootBuiltins t.1 = some (.type (tyN t.2)))) = true := by decide +kernel
theorem boot_isi : bootBuiltins "isinstance" = some (.builtin "isinstance") := by decide +kernel
theorem boot_mx : bootBuiltins "max" = some (.builtin "max") := by decide +kernel
theorem boot_mn : bootBuiltins "min" = some (.builtin "min") := by decide +kernel
theorem mem_of_lk {α : Type} : ∀ {l : List (Str × α)} {x : Str} {v : α}, l.lookup x = some v → (x, v) ∈ l
  | (k, w) :: r, x, v, h => by
    rw [List.lookup_cons] at h
    split at h
    · rename_i e
      cases h
      rw [eq_of_beq e]
      exact List.mem_cons_self
    · exact List.mem_cons_of_mem _ (mem_of_lk h)
section
variable (r : Rec)
def cBlt (C : Ct) (x : Str) : List Expr → Option ME
  | [a] => grd (plainE a) ((r C a).bind fun m => match bltFns.lookup x with
    | some (_, o) => some (.blt o m.1)
    | none => (match bltTys.lookup x with
      | some (_, o) => some (.blt o m.1)
      | none => none))
  | [a, b] => grd (plainE a && plainE b) ((r C a).bind fun m =>
      if x = "isinstance" then (match b with
        | .Name y _ => grd (okName y && glB C.sc y && C.blts.contains y) ((tyNames.lookup y).map fun t => .isi m.1 t)
        | _ => none)
      else if x = "max" then (r C b).map fun n => .blt2 .max m.1 n.1
      else if x = "min" then (r C b).map fun n => .blt2 .min m.1 n.1
      else none)
  | _ => none
def cCall (C : Ct) (x : Str) (args : List Expr) : Option ME := grd (okName x && glB C.sc x) (match C.fns.lookup x with
  | some (f, np, false, _) => (match args with
    | [] => none
    | a :: es => (cEs r C (a :: es)).bind fun ms => grd (ms.len == np) (some (.call f ms)))
  | some (f, np, true, _) => (match args with
    | .Name y _ :: es => C.bag.bind fun i => grd (okName y && visB C.sc y && (slotOf C.N y == some i)) ((cEs r C es).bind fun ms => grd (ms.len + 1 == np) (some (.callb i f ms)))
    | _ => none)
  | none => grd (C.blts.contains x) (cBlt r C x args))
end
section
variable {X : Cx} {F : Fx} {W : Nat → Hp → Prop} {C : Ct} {r : Rec} {p pos : Pos}
theorem bltFn_ok (hc : X.calm = true) {id : String} {o : BltO} {x : Str} (h : (x, id, o) ∈ bltFns) : CallR X (.builtin id) (rC1 X.K (bltD o)) := by
  simp only [bltFns, List.mem_cons, List.not_mem_nil, or_false, Prod.mk.injEq] at h
  rcases h with ⟨_, rfl, rfl⟩ | ⟨_, rfl, rfl⟩ | ⟨_, rfl, rfl⟩ | ⟨_, rfl, rfl⟩ | ⟨_, rfl, rfl⟩ | ⟨_, rfl, rfl⟩
  · exact call_lenD
  · exact call_absD
  · exact call_sumD hc
  · exact call_anyD hc
  · exact call_allD hc
  · exact call_sortedD
theorem bltTy_ok {id : String} {o : BltO} {x : Str} (h : (x, id, o) ∈ bltTys) : CallR X (.type id) (rC1 X.K (bltD o)) := by
  simp only [bltTys, List.mem_cons, List.not_mem_nil, or_false, Prod.mk.injEq] at h
  rcases h with ⟨_, rfl, rfl⟩ | ⟨_, rfl, rfl⟩ | ⟨_, rfl, rfl⟩ | ⟨_, rfl, rfl⟩ | ⟨_, rfl, rfl⟩
  · exact call_intD
  · exact call_strD
  · exact call_tupleD
  · exact call_listD
  · exact call_boolD
theorem cBlt_ok (S : Snd r) (G : Gd X F W C) {x : Str} {args : List Expr} {m : ME} (hx : okName x = true) (hg : glB C.sc x = true) (hb : C.blts.contains x = true) (h : cBlt r C x args = some m) : PE X (.Call (.Name x p) args [] pos) (tD F W m) := by
  obtain ⟨x1, x2, x3⟩ := okName_1 hx
  unfold cBlt at h
  split at h
  · rename_i a
    simp only [grd_some, Option.bind_eq_some_iff] at h
    obtain ⟨hp, n, hn, h⟩ := h
    have ha := (S X F W C a n.1 n.2 G hn).1
    split at h
    · rename_i id o hl
      cases h
      have hm := mem_of_lk hl
      have hbt := List.all_eq_true.mp boots_fn _ hm
      exact d_bltB (bltFn_ok G.calm hm) G.K (G.gl hg) (G.bl x hb) (of_decide_eq_true hbt) ha hp x3 x1
    · split at h
      · rename_i id o hl
        cases h
        have hm := mem_of_lk hl
        have hbt := List.all_eq_true.mp boots_ty _ hm
        exact d_bltT (bltTy_ok hm) G.K (G.gl hg) (G.bl x hb) (of_decide_eq_true hbt) ha hp x3 x1
      · cases h
  · rename_i a b
    simp only [grd_some, Option.bind_eq_some_iff, Bool.and_eq_true] at h
    obtain ⟨⟨hp, hp2⟩, n, hn, h⟩ := h
    have ha := (S X F W C a n.1 n.2 G hn).1
    split at h
    · rename_i e
      subst e
      split at h
      · rename_i y p2
        simp only [grd_some, Option.map_eq_some_iff, Bool.and_eq_true] at h
        obtain ⟨⟨⟨y1, y2⟩, y3⟩, t, ht, rfl⟩ := h
        obtain ⟨z1, z2, z3⟩ := okName_1 y1
        have hbt := List.all_eq_true.mp boots_tn _ (mem_of_lk ht)
        exact d_isi G.K (G.gl hg) (G.bl _ hb) boot_isi (G.gl y2) (G.bl y y3) (of_decide_eq_true hbt) ha hp x3 x1 z3 z1
      · cases h
    · split at h
      · rename_i e
        subst e
        obtain ⟨n2, hn2, rfl⟩ := Option.map_eq_some_iff.mp h
        exact d_blt2 (call_max2D G.calm) G.K (G.gl hg) (G.bl _ hb) boot_mx ha (S X F W C b n2.1 n2.2 G hn2).1 hp hp2 x3 x1
      · split at h
        · rename_i e
          subst e
          obtain ⟨n2, hn2, rfl⟩ := Option.map_eq_some_iff.mp h
          exact d_blt2 (call_min2D G.calm) G.K (G.gl hg) (G.bl _ hb) boot_mn ha (S X F W C b n2.1 n2.2 G hn2).1 hp hp2 x3 x1
        · cases h
  · cases h
theorem cCall_ok (S : Snd r) (G : Gd X F W C) {x : Str} {args : List Expr} {m : ME} (h : cCall r C x args = some m) : PE X (.Call (.Name x p) args [] pos) (tD F W m) := by
  simp only [cCall, grd_some, Bool.and_eq_true] at h
  obtain ⟨⟨hx, hg⟩, h⟩ := h
  obtain ⟨x1, x2, x3⟩ := okName_1 hx
  split at h
  · rename_i f np new hl
    split at h
    · cases h
    · rename_i a es
      simp only [grd_some, Option.bind_eq_some_iff] at h
      obtain ⟨ms, hms, hn, e⟩ := h
      cases e
      obtain ⟨h1, h2, h3⟩ := cEs_ok S G hms
      obtain ⟨k, g, fd, ps, q1, q2, q3, q4, q5⟩ := G.fn x f np new hl
      obtain ⟨hp, hps⟩ := Bool.and_eq_true_iff.mp (List.all_cons ▸ h2)
      exact d_call q1 q2 (G.gl hg) q3 q4 q5 G.tk G.K (eq_of_beq hn) h1 x1 hp hps
  · rename_i f np new hl
    split at h
    · rename_i y p2 es
      simp only [grd_some, Option.bind_eq_some_iff, Bool.and_eq_true] at h
      obtain ⟨i, hi, ⟨⟨y1, y2⟩, y3⟩, ms, hms, hn, e⟩ := h
      cases e
      obtain ⟨z1, z2, z3⟩ := okName_1 y1
      obtain ⟨h1, h2, h3⟩ := cEs_ok S G hms
      obtain ⟨k, g, fd, ps, q1, q2, q3, q4, q5⟩ := G.fb x f np new hl
      exact d_callb q1 q2 (G.gl hg) q3 q4 q5 G.tk G.K (eq_of_beq hn) (G.slot (eq_of_beq y3)) (G.vis y2) z1 z2 h1 x1 h2
    · cases h
  · rename_i hl
    obtain ⟨hb, h⟩ := grd_some.mp h
    exact cBlt_ok S G hx hg hb h
end
/-! ### iterables -/
def isTup : Expr → Bool
  | .Tuple .. => true
  | _ => false
def noSet : Expr → Bool
  | .Set .. => false
  | _ => true
theorem noSet_ok {e : Expr} {env : Env} (h : noSet e = true) (x : Value) : foldedSetIterable e env x = pure x := by
  cases e <;> first | rfl | cases h
section
variable (r : Rec)
def cSq (C : Ct) (e : Expr) : Option MI := (r C e).bind fun m => grd (ss C.O m.1) (some (.seq m.1))
def cI (C : Ct) (tg : Expr) (e : Expr) : Option MI := match e with
  | .Call (.Name x _) args [] _ => if x = "range" then (match args with
      | [a] => grd (glB C.sc x && C.blts.contains x && plainE a) ((r C a).map fun m => .rng1 m.1)
      | [a, b] => grd (glB C.sc x && C.blts.contains x && plainE a && plainE b) ((r C a).bind fun m => (r C b).map fun n => .rng2 m.1 n.1)
      | _ => none)
    else if x = "zip" then (match args with
      | [a, b] => grd (glB C.sc x && C.blts.contains x && plainE a && plainE b && isTup tg) ((r C a).bind fun m => (r C b).bind fun n => grd (ss C.O m.1 && ss C.O n.1) (some (.zip m.1 n.1)))
      | _ => none)
    else if x = "enumerate" then (match args with
      | [a] => grd (glB C.sc x && C.blts.contains x && plainE a && isTup tg) ((r C a).bind fun m => grd (ss C.O m.1) (some (.enum m.1)))
      | _ => none)
    else cSq r C e
  | _ => cSq r C e
end
section
variable {X : Cx} {F : Fx} {W : Nat → Hp → Prop} {C : Ct} {r : Rec} {p pos : Pos}
theorem cSq_ok (S : Snd r) (G : Gd X F W C) {tg e : Expr} {mi : MI} (h : cSq r C e = some mi) : PI X tg e (iD F W mi) := by
  simp only [cSq, grd_some, Option.bind_eq_some_iff] at h
  obtain ⟨m, hm, hs, e1⟩ := h
  cases e1
  exact i_seq G.K (by rw [G.O]; exact hs) (S X F W C e m.1 m.2 G hm).1
theorem cI_ok (S : Snd r) (G : Gd X F W C) {tg e : Expr} {mi : MI} (h : cI r C tg e = some mi) : PI X tg e (iD F W mi) := by
  unfold cI at h
  split at h
  · rename_i x p1 args p2
    split at h
    · rename_i e1
      subst e1
      split at h
      · simp only [grd_some, Option.map_eq_some_iff, Bool.and_eq_true] at h
        obtain ⟨⟨⟨h1, h2⟩, h3⟩, m, hm, rfl⟩ := h
        exact i_rng1 (G.gl h1) (G.bl _ h2) (S X F W C _ m.1 m.2 G hm).1 h3
      · simp only [grd_some, Option.map_eq_some_iff, Option.bind_eq_some_iff, Bool.and_eq_true] at h
        obtain ⟨⟨⟨⟨h1, h2⟩, h3⟩, h4⟩, m, hm, n, hn, rfl⟩ := h
        exact i_rng2 (G.gl h1) (G.bl _ h2) (S X F W C _ m.1 m.2 G hm).1 (S X F W C _ n.1 n.2 G hn).1 h3 h4
      · cases h
    · split at h
      · rename_i e1
        subst e1
        split at h
        · simp only [grd_some, Option.bind_eq_some_iff, Bool.and_eq_true] at h
          obtain ⟨⟨⟨⟨⟨h1, h2⟩, h3⟩, h4⟩, h5⟩, m, hm, n, hn, ⟨s1, s2⟩, e2⟩ := h
          cases e2
          cases tg with
          | Tuple elts kk tp => exact i_zip G.K (G.gl h1) (G.bl _ h2) (by rw [G.O]; exact s1) (by rw [G.O]; exact s2) (S X F W C _ m.1 m.2 G hm).1 (S X F W C _ n.1 n.2 G hn).1 h3 h4
          | _ => cases h5
        · cases h
      · split at h
        · rename_i e1
          subst e1
          split at h
          · simp only [grd_some, Option.bind_eq_some_iff, Bool.and_eq_true] at h
            obtain ⟨⟨⟨⟨h1, h2⟩, h3⟩, h5⟩, m, hm, s1, e2⟩ := h
            cases e2
            cases tg with
            | Tuple elts kk tp => exact i_enum G.K (G.gl h1) (G.bl _ h2) (by rw [G.O]; exact s1) (S X F W C _ m.1 m.2 G hm).1 h3
            | _ => cases h5
          · cases h
        · exact cSq_ok S G h
  · exact cSq_ok S G h
end
/-! ### comprehensions -/
def ownOf (N : List Str) : List (Str × NameKind) → List (Str × Nat)
  | [] => []
  | (x, .local) :: l => (match slotOf N x with
    | some i => (x, i) :: ownOf N l
    | none => ownOf N l)
  | (x, .cell) :: l => (match slotOf N x with
    | some i => (x, i) :: ownOf N l
    | none => ownOf N l)
  | _ :: l => ownOf N l
def Ct.inB (C : Ct) (scope : Scope) : Ct := { C with sc := relS scope C.sc, top := false, lams := [] }
def cIfs (r : Rec) (C : Ct) : List Expr → Option MO
  | [] => some .no
  | [c] => (r C c).bind fun m => grd m.2 (some (.so m.1))
  | _ => none
def cComp (r : Rec) (C : Ct) (elt tg iter : Expr) (ifs : List Expr) (scope : Scope) : Option ME :=
  grd (blkC C.N C.sc scope (ownOf C.N scope.names) && (ownOf C.N scope.names).all (fun p => !C.O.contains p.2) && noSet iter) ((cI r C tg iter).bind fun mi => (cG 12 (C.inB scope) tg).bind fun t =>
    grd (t.idx.all fun j => ((ownOf C.N scope.names).map (·.2)).contains j) ((cIfs r (C.inB scope) ifs).bind fun mc => (r (C.inB scope) elt).map fun m => .comp m.1 t mi mc ((ownOf C.N scope.names).map (·.2))))
section
variable {X : Cx} {F : Fx} {W : Nat → Hp → Prop} {C : Ct} {r : Rec} {p pos : Pos}
theorem Gd.blk (G : Gd X F W C) (scope : Scope) (D : Addr) (s : Shared) (H : Hp) (A : Addr) (cl : List (Str × Addr)) (fp : List Addr) : Gd (X.blk s H scope (compEnvC scope cl A X.env) fp) (F.with D) (fun _ _ => False) (C.inB scope) := by
  refine ⟨G.N, G.nd, ?_, fun h => (by cases h), G.calm, G.K, G.O, G.un, ⟨fun _ _ _ _ => False, takesN, fun _ _ _ h => h⟩, fun x f np new h => ?_, fun x f np new h => ?_, fun x n h => G.gc x n h, G.bl, fun x lb h => by cases h⟩
  · show relS scope X.env.scope = relS scope C.sc
    rw [G.sc]
  · exact G.fn x f np new h
  · exact G.fb x f np new h
theorem cIfs_ok (S : Snd r) (G : Gd X F W C) {ifs : List Expr} {mc : MO} (h : cIfs r C ifs = some mc) : PTs X ifs (tC F W mc) := by
  unfold cIfs at h
  split at h
  · cases h; exact c_no
  · rename_i c
    simp only [grd_some, Option.bind_eq_some_iff] at h
    obtain ⟨m, hm, hb, e⟩ := h
    cases e
    exact c_so ((S X F W C c m.1 m.2 G hm).2 hb)
  · cases h
/-- the parts of a comprehension -/
structure CompOk (X : Cx) (F : Fx) (W : Nat → Hp → Prop) (elt tg iter : Expr) (ifs : List Expr) (scope : Scope) (own : List (Str × Nat)) (me : ME) (t : Tgt) (mi : MI) (mc : MO) : Prop where
  hi : PI X tg iter (iD F W mi)
  ok : BlkOk X.N X.env.scope scope own
  hO : ∀ p ∈ own, p.2 ∉ F.O
  hidx : ∀ j ∈ t.idx, j ∈ own.map (·.2)
  hg : ∀ (D : Addr) (s : Shared) (H : Hp) (C : Addr) (cl : List (Str × Addr)) (fp : List Addr), PG (X.blk s H scope (compEnvC scope cl C X.env) fp) tg (gD (F.with D) t)
  ht : ∀ (D : Addr) (s : Shared) (H : Hp) (C : Addr) (cl : List (Str × Addr)) (fp : List Addr), PTs (X.blk s H scope (compEnvC scope cl C X.env) fp) ifs (tC (F.with D) (fun _ _ => False) mc)
  he : ∀ (D : Addr) (s : Shared) (H : Hp) (C : Addr) (cl : List (Str × Addr)) (fp : List Addr), PE (X.blk s H scope (compEnvC scope cl C X.env) fp) elt (tD (F.with D) (fun _ _ => False) me)
  hs : ∀ x, foldedSetIterable iter X.env x = pure x
theorem cComp_parts (S : Snd r) (G : Gd X F W C) {elt tg iter : Expr} {ifs : List Expr} {scope : Scope} {m : ME} (h : cComp r C elt tg iter ifs scope = some m) :
    ∃ me t mi mc, m = .comp me t mi mc ((ownOf C.N scope.names).map (·.2)) ∧ CompOk X F W elt tg iter ifs scope (ownOf C.N scope.names) me t mi mc := by
  simp only [cComp, grd_some, Option.bind_eq_some_iff, Option.map_eq_some_iff, Bool.and_eq_true] at h
  obtain ⟨⟨⟨h1, h2⟩, h3⟩, mi, hmi, t, ht, hidx, mc, hmc, n, hn, rfl⟩ := h
  refine ⟨n.1, t, mi, mc, rfl, cI_ok S G hmi, ?_, fun p hp => ?_, fun j hj => ?_, fun D s H A cl fp => cG_ok (G.blk scope D s H A cl fp) 12 ht, fun D s H A cl fp => cIfs_ok S (G.blk scope D s H A cl fp) hmc, fun D s H A cl fp => (S _ _ _ _ elt n.1 n.2 (G.blk scope D s H A cl fp) hn).1, noSet_ok h3⟩
  · rw [G.N, G.sc]
    exact blkOk_by h1
  · have := List.all_eq_true.mp h2 p hp
    rw [G.O]
    simpa using this
  · have := List.all_eq_true.mp hidx j hj
    simpa using this
theorem CompOk.pe {elt tg iter : Expr} {ifs : List Expr} {scope : Scope} {own : List (Str × Nat)} {me : ME} {t : Tgt} {mi : MI} {mc : MO} (G : Gd X F W C) (h : CompOk X F W elt tg iter ifs scope own me t mi mc) :
    PE X (.ListComp elt [⟨tg, iter, ifs, 0⟩] scope pos) (tF F W (.comp me t mi mc (own.map (·.2)))) := d_comp G.calm G.nd h.hi h.ok h.hO h.hidx h.hg h.ht h.he h.hs
theorem cComp_ok (S : Snd r) (G : Gd X F W C) {elt tg iter : Expr} {ifs : List Expr} {scope : Scope} {m : ME} (h : cComp r C elt tg iter ifs scope = some m) : PE X (.ListComp elt [⟨tg, iter, ifs, 0⟩] scope pos) (tF F W m) := by
  obtain ⟨me, t, mi, mc, rfl, k⟩ := cComp_parts S G h
  exact k.pe G
end
end PD
set_option linter.all false
set_option maxRecDepth 100000
set_option maxHeartbeats 1000000
/-! From text to the evaluator's forms: every expression. -/
namespace PD
open PySem PySem.Spec PyProof.Rows L2
section
variable {X : Cx} {F : Fx} {W : Nat → Hp → Prop} {p p2 pos : Pos}
theorem dT_bagne {i : Nat} {y : Str} (hN : X.N[i]? = some y) (hu : X.A.units + 65 < cLine) (hv : Vis X.env.scope y) (hd : (y == ("__debug__" : Str)) = false) (hcd : (y == ("__classdict__" : Str)) = false) :
    PT X (.Compare (.Name y p) [.NotEq] [.List [] p2] pos) (tT F W (.bagne i)) := by
  refine (pt_cmpR (op_neD (by omega)) (pe_var hN hv hd hcd) (pe_lst pa_nil) rfl).imp fun σ H Q ⟨e, B, I, A⟩ => ?_
  simp only [ev] at A
  cases q : e[i]? with
  | none => rw [q] at A; exact A.elim
  | some z =>
    rw [q] at A
    cases z with
    | bag =>
      obtain ⟨_, b, e1, e2, _⟩ := I.bag i q
      refine ⟨_, e1, Nat.zero_le _, fun p hp => ⟨.list (B.map .int), .list [], .lst (SqL.of (same_new hp _ _ e2)) (DvAll.dp (A := none_) _ (.ofInts _)), .lst (SqL.of upd_same) .nil, shaped_ints B, rfl, ?_⟩⟩
      have eb : (!PyData.eqv (.list (B.map .int)) (.list [])) = !B.isEmpty := by cases B <;> rfl
      rw [eb]
      obtain ⟨k, hk, q⟩ := A _ (I.here.same (same_new hp))
      cases hk
      exact ⟨_, rfl, q⟩
    | _ => exact A.elim
end
def baseE : Expr → Bool
  | .Call .. => false
  | _ => true
theorem baseE_ok {o : Expr} {a : Str} {env : Env} {w : Sem Value} (h : baseE o = true) : attributeBase o a env w = w := by
  cases o <;> first | rfl | cases h
section
variable (r : Rec)
def cAttr (C : Ct) (o : Expr) (name : Str) (apos : Pos) (args : List Expr) (pos : Pos) : Option ME := match args with
  | [a] => if name = "pop" then (match o, a with
      | .Name y _, .Constant (.int 0) _ _ => C.bag.bind fun i => grd (okName y && visB C.sc y && (slotOf C.N y == some i) && (apos.endLine == pos.line)) (some (.bagpop i))
      | _, _ => none)
    else if name = "join" then grd (baseE o && plainE a && (apos.endLine == pos.line)) ((r C o).bind fun m => (r C a).map fun n => .join m.1 n.1)
    else if name = "split" then grd (baseE o && plainE a && (apos.endLine == pos.line)) ((r C o).bind fun m => (r C a).map fun n => .split m.1 n.1)
    else none
  | _ => none
def cCmp (C : Ct) (a : Expr) (ops : List CmpOp) (bs : List Expr) : Option ME := match ops, bs with
  | [o], [b] => (match a, o, b with
    | .Name y _, .NotEq, .List [] _ => if C.bag.isSome && (slotOf C.N y == C.bag) then C.bag.bind fun i => grd (okName y && visB C.sc y) (some (.bagne i))
      else (r C a).bind fun m => (r C b).map fun n => .cmp .ne m.1 n.1
    | _, _, _ => (opC o).bind fun o' => grd (!behindInMarks o b) ((r C a).bind fun m => (r C b).map fun n => .cmp o' m.1 n.1))
  | [o, o'], [b, c] => (opC o).bind fun q => (opC o').bind fun q' => grd (!lastMarks [o, o'] [b, c]) ((r C a).bind fun m => (r C b).bind fun n => (r C c).map fun k => .chain q q' m.1 n.1 k.1)
  | _, _ => none
def cBin (C : Ct) (a : Expr) (op : Operator) (b : Expr) : Option ME := match a, op with
  | .List es _, .Mult => (cEs r C es).bind fun ms => grd (decide (ms.len ≤ 1000)) ((r C b).map fun n => .lrep ms n.1)
  | _, _ => (opB op).bind fun o => (r C a).bind fun m => (r C b).map fun n => .bin o m.1 n.1
def cSset (C : Ct) (x : Str) (args : List Expr) : Option ME := match args with
  | [.Call (.Name y _) [b] [] _] => grd (decide (x = "sorted") && decide (y = "set") && glB C.sc x && glB C.sc y && C.blts.contains x && C.blts.contains y && plainE b) ((r C b).map fun m => .blt .sset m.1)
  | _ => none
def cLrng (C : Ct) (x : Str) (args : List Expr) : Option ME := match args with
  | [.Call (.Name y _) [b] [] _] => grd (decide (x = "list") && decide (y = "range") && glB C.sc x && glB C.sc y && C.blts.contains x && C.blts.contains y && plainE b) ((r C b).map fun m => .blt .lrng m.1)
  | _ => none
def cSub (C : Ct) (a : Expr) (s : Expr) : Option ME := match s with
  | .Slice none none (some (.UnaryOp .USub (.Constant (.int i) _ _) _)) _ => grd (i == 1) ((r C a).map fun m => .blt .rev m.1)
  | .Slice none (some (.Constant (.int j) _ _)) (some (.UnaryOp .USub (.Constant (.int i) _ _) _)) _ => grd (i == 1 && j == 0) ((r C a).map fun m => .blt .revt m.1)
  | .Slice lo hi none _ => (r C a).bind fun m => (cO r C lo).bind fun l => (cO r C hi).map fun h => .sl m.1 l h
  | .Slice .. => none
  | _ => (r C a).bind fun m => (r C s).map fun n => .ix m.1 n.1
/-- a dict's item -/
def cDget (C : Ct) (a s : Expr) : Option ME := match a with
  | .Name x _ => (slotOf C.N x).bind fun i => grd (C.dics.contains i && okName x && visB C.sc x && !isSlice s) ((r C s).map fun n => .dget i n.1)
  | _ => none
def Ct.inL (C : Ct) (scope : Scope) : Ct := { C with sc := scope, top := false, bag := none, lams := [] }
def cLam (C : Ct) (x : Str) (args : List Expr) : Option ME := match args with
  | [.Lambda ⟨[], [], none, [], [], none, []⟩ body scope _] => (C.lams.lookup x).bind fun lb => grd (LamX.lamSB C.sc scope) ((r (C.inL scope) body).map fun m => lamE lb m.1)
  | _ => none
def stepE (C : Ct) (e : Expr) : Option (ME × Bool) := match e with
  | .Name x _ => (cName C x).map fun m => (m, true)
  | .Constant c _ _ => (cConst c).map fun m => (m, true)
  | .Tuple es _ _ => (cEs r C es).bind fun ms => grd (decide (ms.len ≤ 1000)) (some (.tup ms, true))
  | .List es _ => (cEs r C es).bind fun ms => grd (decide (ms.len ≤ 1000)) (some (.lst ms, true))
  | .BinOp a op b _ => (cBin r C a op b).map fun m => (m, true)
  | .UnaryOp .Not a _ => (r C a).map fun m => (.nt m.1, m.2)
  | .UnaryOp .USub a _ => (r C a).map fun m => (.blt .neg m.1, true)
  | .Compare a ops bs _ => (cCmp r C a ops bs).map fun m => (m, true)
  | .BoolOp op es _ => cB r C op es
  | .IfExp c a b _ => (r C c).bind fun k => grd k.2 ((r C a).bind fun m => (r C b).map fun n => (.ite k.1 m.1 n.1, false))
  | .Subscript a s _ => (match cDget r C a s with
    | some m => some (m, true)
    | none => (cSub r C a s).map fun m => (m, true))
  | .FormattedValue a (-1) none _ => (r C a).map fun m => (.blt .fmt m.1, true)
  | .JoinedStr (a :: b :: es) _ => (cEs r C (a :: b :: es)).map fun ms => (.js ms, true)
  | .Call (.Name x _) args [] _ => (match cLrng r C x args with
    | some m => some (m, true)
    | none => (match cSset r C x args with
    | some m => some (m, true)
    | none => (match cLam r C x args with
      | some m => some (m, true)
      | none => (cCall r C x args).map fun m => (m, true))))
  | .Call (.Attribute o name apos) args [] pos => (cAttr r C o name apos args pos).map fun m => (m, true)
  | .ListComp elt [⟨tg, iter, ifs, z⟩] scope _ => grd (z == 0) ((cComp r C elt tg iter ifs scope).map fun m => (m, true))
  | .Attribute (.Name x _) f _ => (slotOf C.N x).bind fun i => grd (C.inss.contains i && okName x && visB C.sc x) (some (.fld i f, true))
  | _ => none
end
section
variable {X : Cx} {F : Fx} {W : Nat → Hp → Prop} {C : Ct} {r : Rec} {p pos : Pos}
theorem val_both {e : Expr} {m : ME} {b : Bool} (h : PE X e (tD F W m)) (v : valTest e = true) : PE X e (tD F W m) ∧ (b = true → PT X e (tT F W m)) := ⟨h, fun _ => dT_val h (isTrue_val v)⟩
theorem cAttr_ok (S : Snd r) (G : Gd X F W C) {o : Expr} {name : Str} {apos : Pos} {args : List Expr} {m : ME} (h : cAttr r C o name apos args pos = some m) : PE X (.Call (.Attribute o name apos) args [] pos) (tD F W m) := by
  unfold cAttr at h
  split at h
  · rename_i a
    split at h
    · rename_i e
      subst e
      split at h
      · rename_i y p1 j p2
        simp only [grd_some, Option.bind_eq_some_iff, Bool.and_eq_true] at h
        obtain ⟨i, hi, ⟨⟨⟨h1, h2⟩, h3⟩, h4⟩, e⟩ := h
        cases e
        obtain ⟨z1, z2, z3⟩ := okName_1 h1
        exact d_bagpop (p4 := pos) (G.slot (eq_of_beq h3)) (G.vis h2) z1 z2 h4
      · cases h
    · split at h
      · rename_i e
        subst e
        simp only [grd_some, Option.bind_eq_some_iff, Option.map_eq_some_iff, Bool.and_eq_true] at h
        obtain ⟨⟨⟨h1, h2⟩, h3⟩, m, hm, n, hn, rfl⟩ := h
        exact d_join G.K (S X F W C o m.1 m.2 G hm).1 (S X F W C a n.1 n.2 G hn).1 h2 (baseE_ok h1) h3
      · split at h
        · rename_i e
          subst e
          simp only [grd_some, Option.bind_eq_some_iff, Option.map_eq_some_iff, Bool.and_eq_true] at h
          obtain ⟨⟨⟨h1, h2⟩, h3⟩, m, hm, n, hn, rfl⟩ := h
          exact d_split (S X F W C o m.1 m.2 G hm).1 (S X F W C a n.1 n.2 G hn).1 h2 (baseE_ok h1) h3
        · cases h
  · cases h
theorem cCmp_ok (S : Snd r) (G : Gd X F W C) {a : Expr} {ops : List CmpOp} {bs : List Expr} {m : ME} (h : cCmp r C a ops bs = some m) : PE X (.Compare a ops bs pos) (tD F W m) ∧ PT X (.Compare a ops bs pos) (tT F W m) := by
  unfold cCmp at h
  split at h
  · rename_i o b
    split at h
    · rename_i y p1 p2
      split at h
      · rename_i hb
        simp only [grd_some, Option.bind_eq_some_iff, Bool.and_eq_true] at h hb
        obtain ⟨i, hi, ⟨h1, h2⟩, e⟩ := h
        cases e
        obtain ⟨z1, z2, z3⟩ := okName_1 h1
        have hs := eq_of_beq hb.2
        rw [hi] at hs
        exact ⟨d_bagne (G.slot hs) G.un (G.vis h2) z1 z2, dT_bagne (G.slot hs) G.un (G.vis h2) z1 z2⟩
      · simp only [Option.bind_eq_some_iff, Option.map_eq_some_iff] at h
        obtain ⟨m1, hm, n, hn, rfl⟩ := h
        have ha := (S X F W C _ m1.1 m1.2 G hm).1
        have hb := (S X F W C _ n.1 n.2 G hn).1
        exact ⟨d_cmp (o := .ne) G.K G.un ha hb rfl, dT_cmp (o := .ne) G.K G.un ha hb rfl⟩
    · simp only [grd_some, Option.bind_eq_some_iff, Option.map_eq_some_iff, Bool.not_eq_true'] at h
      obtain ⟨o', ho, hb, m1, hm, n, hn, rfl⟩ := h
      have ha := (S X F W C _ m1.1 m1.2 G hm).1
      have hbb := (S X F W C _ n.1 n.2 G hn).1
      have e := opC_cop ho
      subst e
      exact ⟨d_cmp G.K G.un ha hbb hb, dT_cmp G.K G.un ha hbb hb⟩
  · simp only [grd_some, Option.bind_eq_some_iff, Option.map_eq_some_iff, Bool.not_eq_true'] at h
    obtain ⟨q, hq, q', hq', hl, m1, hm, n, hn, k, hk, rfl⟩ := h
    have ha := (S X F W C _ m1.1 m1.2 G hm).1
    have hb := (S X F W C _ n.1 n.2 G hn).1
    have hc := (S X F W C _ k.1 k.2 G hk).1
    have e := opC_cop hq
    have e' := opC_cop hq'
    subst e e'
    exact ⟨d_chain G.K G.un ha hb hc hl, dT_chain G.K G.un ha hb hc hl⟩
  · cases h
theorem cBin_ok (S : Snd r) (G : Gd X F W C) {a b : Expr} {op : Operator} {m : ME} (h : cBin r C a op b = some m) : PE X (.BinOp a op b pos) (tD F W m) := by
  unfold cBin at h
  split at h
  · simp only [grd_some, Option.bind_eq_some_iff, Option.map_eq_some_iff, decide_eq_true_eq] at h
    obtain ⟨ms, hms, hl, n, hn, rfl⟩ := h
    exact d_new (d_lrepF (cEs_ok S G hms).1 (S X F W C _ n.1 n.2 G hn).1 hl)
  · simp only [Option.bind_eq_some_iff, Option.map_eq_some_iff] at h
    obtain ⟨o, ho, m1, hm, n, hn, rfl⟩ := h
    have e := opB_bop ho
    subst e
    exact d_bin G.K (S X F W C _ m1.1 m1.2 G hm).1 (S X F W C _ n.1 n.2 G hn).1
theorem cSub_ok (S : Snd r) (G : Gd X F W C) {a s : Expr} {m : ME} (h : cSub r C a s = some m) : PE X (.Subscript a s pos) (tD F W m) := by
  unfold cSub at h
  split at h
  · simp only [grd_some, Option.map_eq_some_iff] at h
    obtain ⟨hi, m1, hm, rfl⟩ := h
    have hi := eq_of_beq hi
    subst hi
    exact d_rev G.K (S X F W C _ m1.1 m1.2 G hm).1
  · simp only [grd_some, Option.map_eq_some_iff, Bool.and_eq_true] at h
    obtain ⟨⟨hi, hj⟩, m1, hm, rfl⟩ := h
    have hi := eq_of_beq hi
    have hj := eq_of_beq hj
    subst hi hj
    exact d_revt G.K (S X F W C _ m1.1 m1.2 G hm).1
  · simp only [Option.bind_eq_some_iff, Option.map_eq_some_iff] at h
    obtain ⟨m1, hm, l, hl, u, hu, rfl⟩ := h
    exact d_sl G.K (S X F W C _ m1.1 m1.2 G hm).1 (cO_ok S G hl) (cO_ok S G hu)
  · cases h
  · rename_i hn0 hnj hn1 hn2
    simp only [Option.bind_eq_some_iff, Option.map_eq_some_iff] at h
    obtain ⟨m1, hm, n, hn, rfl⟩ := h
    refine d_ix G.K (S X F W C _ m1.1 m1.2 G hm).1 (S X F W C _ n.1 n.2 G hn).1 ?_
    cases s <;> first | rfl | exact absurd rfl (hn2 _ _ _ _)
theorem cDget_ok (S : Snd r) (G : Gd X F W C) {a s : Expr} {m : ME} (h : cDget r C a s = some m) : PE X (.Subscript a s pos) (tD F W m) := by
  unfold cDget at h
  split at h
  · rename_i x p1
    simp only [grd_some, Option.bind_eq_some_iff, Option.map_eq_some_iff, Bool.and_eq_true, Bool.not_eq_true'] at h
    obtain ⟨i, hi, ⟨⟨⟨hd, hx⟩, hv⟩, hsl⟩, n, hn, rfl⟩ := h
    obtain ⟨x1, x2, x3⟩ := okName_1 hx
    refine d_dget G.K (by have := G.un; omega) (G.slot hi) (G.vis hv) x1 x2 (S X F W C _ n.1 n.2 G hn).1 ?_
    intro ov iv
    cases s <;> first | rfl | cases hsl
  · cases h
theorem cSset_ok (S : Snd r) (G : Gd X F W C) {x : Str} {args : List Expr} {m : ME} (h : cSset r C x args = some m) : PE X (.Call (.Name x p) args [] pos) (tD F W m) := by
  unfold cSset at h
  split at h
  · simp only [grd_some, Option.map_eq_some_iff, Bool.and_eq_true, decide_eq_true_eq] at h
    obtain ⟨⟨⟨⟨⟨⟨⟨rfl, rfl⟩, h1⟩, h2⟩, h3⟩, h4⟩, h5⟩, n, hn, rfl⟩ := h
    exact d_sset G.calm (by have := G.un; omega) G.K (G.gl h1) (G.bl _ h3) (G.gl h2) (G.bl _ h4) (S X F W C _ n.1 n.2 G hn).1 h5
  · cases h
theorem cLrng_ok (S : Snd r) (G : Gd X F W C) {x : Str} {args : List Expr} {m : ME} (h : cLrng r C x args = some m) : PE X (.Call (.Name x p) args [] pos) (tD F W m) := by
  unfold cLrng at h
  split at h
  · simp only [grd_some, Option.map_eq_some_iff, Bool.and_eq_true, decide_eq_true_eq] at h
    obtain ⟨⟨⟨⟨⟨⟨⟨rfl, rfl⟩, h1⟩, h2⟩, h3⟩, h4⟩, h5⟩, n, hn, rfl⟩ := h
    exact d_lrng G.calm G.K (G.gl h1) (G.bl _ h3) (G.gl h2) (G.bl _ h4) (S X F W C _ n.1 n.2 G hn).1 h5
  · cases h
theorem cEs_pj (S : Snd r) (G : Gd X F W C) : ∀ {es : List Expr} {ms : MEs}, cEs r C es = some ms → PJ X es (tDs F W ms)
  | [], ms, h => by simp only [cEs, Option.some.injEq] at h; subst h; exact .nil
  | e :: es, ms, h => by
    simp only [cEs, grd_some, Option.bind_eq_some_iff, Option.map_eq_some_iff] at h
    obtain ⟨hp, m, hm, ms', hms, rfl⟩ := h
    exact .cons (S X F W C e m.1 m.2 G hm).1 (cEs_pj S G hms)
theorem cLam_ok (S : Snd r) (G : Gd X F W C) {x : Str} {args : List Expr} {m : ME} (h : cLam r C x args = some m) : PE X (.Call (.Name x p) args [] pos) (tD F W m) := by
  unfold cLam at h
  split at h
  · rename_i body scope lpos
    simp only [grd_some, Option.bind_eq_some_iff, Option.map_eq_some_iff] at h
    obtain ⟨lb, hl, hs, n, hn, rfl⟩ := h
    obtain ⟨k0, hR, hf, hb⟩ := G.lam x lb hl
    refine hR F.kp body scope lpos p pos n.1 W (LamX.lamS_by (by rw [G.sc]; exact hs)) fun A0 A outer s H E f c' hr => ?_
    have tk : L2N.Takes (lamN X A outer s H E scope f c') (fun cls d _ H => E cls d H) := L2N.takes_of rfl rfl rfl rfl
    refine (S (lamN X A outer s H E scope f c') { F with A0 := A0 } (fun c H' => E (.ref (F.cls c)) none H') (C.inL scope) body n.1 n.2 ⟨G.N, G.nd, rfl, fun h => (by cases h), rfl, G.K, G.O, ?_, ⟨_, tk, fun c σ H' h => h⟩, fun x i np new h => ?_, fun x i np new h => ?_, G.gc, G.bl, fun x lb h => by cases h⟩ hn).1
    · have := hr.un
      show (A.deeper (LamX.lamEnv X scope s.heap.objs.size f c')).units + 65 < cLine
      omega
    · obtain ⟨k, g, fd, ps, h1, h2, h3⟩ := hf x i np new h
      exact ⟨k, g, fd, ps, h1, hr.mono h2, h3⟩
    · obtain ⟨k, g, fd, ps, h1, h2, h3⟩ := hb x i np new h
      exact ⟨k, g, fd, ps, h1, hr.mono h2, h3⟩
  · cases h
theorem step_ok (S : Snd r) : Snd (stepE r) := by
  intro X F W C e m b G h
  unfold stepE at h
  split at h
  · obtain ⟨n, hn, e⟩ := Option.map_eq_some_iff.mp h
    cases e
    exact val_both (cName_ok G hn) rfl
  · obtain ⟨n, hn, e⟩ := Option.map_eq_some_iff.mp h
    cases e
    exact val_both (cConst_ok G hn) rfl
  · simp only [grd_some, Option.bind_eq_some_iff, decide_eq_true_eq] at h
    obtain ⟨ms, hms, hl, e⟩ := h
    cases e
    exact val_both (d_tup' (cEs_ok S G hms).1 hl) rfl
  · simp only [grd_some, Option.bind_eq_some_iff, decide_eq_true_eq] at h
    obtain ⟨ms, hms, hl, e⟩ := h
    cases e
    exact val_both (d_new (d_lstF (cEs_ok S G hms).1 hl)) rfl
  · obtain ⟨n, hn, e⟩ := Option.map_eq_some_iff.mp h
    cases e
    exact val_both (cBin_ok S G hn) rfl
  · obtain ⟨n, hn, e⟩ := Option.map_eq_some_iff.mp h
    cases e
    obtain ⟨h1, h2⟩ := S X F W C _ n.1 n.2 G hn
    exact ⟨d_nt h1, fun hb => dT_nt (h2 hb)⟩
  · obtain ⟨n, hn, e⟩ := Option.map_eq_some_iff.mp h
    cases e
    exact val_both (d_neg G.K (S X F W C _ n.1 n.2 G hn).1) rfl
  · obtain ⟨n, hn, e⟩ := Option.map_eq_some_iff.mp h
    cases e
    obtain ⟨h1, h2⟩ := cCmp_ok (pos := by assumption) S G hn
    exact ⟨h1, fun _ => h2⟩
  · obtain ⟨h1, h2⟩ := cB_ok S G (p := by assumption) h
    exact ⟨h1, fun hb => (h2 hb).pt⟩
  · simp only [grd_some, Option.bind_eq_some_iff, Option.map_eq_some_iff] at h
    obtain ⟨k, hk, hkb, m1, hm, n, hn, e⟩ := h
    cases e
    exact ⟨d_ite ((S X F W C _ k.1 k.2 G hk).2 hkb) (S X F W C _ m1.1 m1.2 G hm).1 (S X F W C _ n.1 n.2 G hn).1, fun hb => (by cases hb)⟩
  · split at h
    · rename_i m1 hm1
      cases h
      exact val_both (cDget_ok S G hm1) rfl
    · obtain ⟨n, hn, e⟩ := Option.map_eq_some_iff.mp h
      cases e
      exact val_both (cSub_ok S G hn) rfl
  · obtain ⟨n, hn, e⟩ := Option.map_eq_some_iff.mp h
    cases e
    exact val_both (d_fmt (S X F W C _ n.1 n.2 G hn).1) rfl
  · obtain ⟨ms, hms, e⟩ := Option.map_eq_some_iff.mp h
    cases e
    exact val_both (d_js (cEs_pj S G hms)) rfl
  · split at h
    · rename_i n hn
      cases h
      exact val_both (cLrng_ok S G hn) rfl
    · split at h
      · rename_i n hn
        cases h
        exact val_both (cSset_ok S G hn) rfl
      · split at h
        · rename_i n hn
          cases h
          exact val_both (cLam_ok S G hn) rfl
        · obtain ⟨n, hn, e⟩ := Option.map_eq_some_iff.mp h
          cases e
          exact val_both (cCall_ok S G hn) rfl
  · obtain ⟨n, hn, e⟩ := Option.map_eq_some_iff.mp h
    cases e
    exact val_both (cAttr_ok S G hn) rfl
  · simp only [grd_some, Option.map_eq_some_iff] at h
    obtain ⟨hz, n, hn, e⟩ := h
    cases e
    have hz := eq_of_beq hz
    subst hz
    exact val_both (d_new (cComp_ok S G hn)) rfl
  · simp only [grd_some, Option.bind_eq_some_iff, Bool.and_eq_true] at h
    obtain ⟨i, hi, ⟨⟨h1, h2⟩, h3⟩, e⟩ := h
    cases e
    obtain ⟨z1, z2, z3⟩ := okName_1 h2
    exact val_both (d_fld G.K (G.slot hi) (G.vis h3) z1 z2) rfl
  · cases h
/-- the reader, so many levels deep -/
def cE : Nat → Rec
  | 0 => fun _ _ => none
  | n + 1 => stepE (cE n)
theorem cE_ok : ∀ n : Nat, Snd (cE n)
  | 0 => fun X F W C e m b G h => nomatch h
  | n + 1 => step_ok (cE_ok n)
end
end PD
set_option linter.all false
set_option maxRecDepth 100000
set_option maxHeartbeats 1000000
/-! From text to the evaluator's forms: statements. -/
namespace PD
open PySem PySem.Spec PyProof.Rows L2
/-! ### which stores are swapped -/
def isComp : Expr → Bool
  | .ListComp .. => true
  | .SetComp .. => true
  | .DictComp .. => true
  | _ => false
theorem sw_no {e : Expr} {t : Option Expr} {l : Nat} {env : Env} (h : isComp e = false) : swapsWith e t l env = pure false := by
  cases e <;> first | rfl | cases h
theorem sw_cell {elt : Expr} {gs : List Comprehension} {scope : Scope} {pos py : Pos} {y : Str} {l : Nat} {env : Env} (hy : env.scope.names.lookup y = some .cell) : swapsWith (.ListComp elt gs scope pos) (some (.Name y py)) l env = pure false := by
  have ky : env.kindOf y = some .cell := hy
  unfold swapsWith
  simp only [ky]
  show (pure (env.blockKind == .function && (some NameKind.cell == some .local) && _ && _) : Sem Bool) = _
  rw [show (some NameKind.cell == some NameKind.local) = false from rfl, Bool.and_false]
  rfl
theorem st_name {x : Str} {p : Pos} {e : Expr} {env : Env} : swappedStores [.Name x p] e env = pure none := rfl
theorem st_sub {o k : Expr} {p : Pos} {e : Expr} {env : Env} : swappedStores [.Subscript o k p] e env = pure none := rfl
theorem st_tup {ts : List Expr} {k : Nat} {p : Pos} {e : Expr} {env : Env} (h : isTup e = false) : swappedStores [.Tuple ts k p] e env = pure none := by
  cases e <;> first | rfl | cases h
theorem bk_fn {env : Env} (hk : env.scope.kind = .function) : env.blockKind = .function := by unfold Env.blockKind; rw [hk]; rfl
theorem plain_star (a : Expr) : (match a with | .Starred .. => true | _ => false) = !plainE a := by cases a <;> rfl
theorem st_two {x y : Str} {px py pt pt2 : Pos} {kt k2 : Nat} {a b : Expr} {env : Env} (hk : env.scope.kind = .function) (hx : env.scope.names.lookup x = some .local) (hy : env.scope.names.lookup y = some .local) (hl : (py.line == px.line) = true) (hxy : x ≠ y)
    (ha : plainE a = true) (hb : plainE b = true) (hf : [a, b].all (foldedForSure 8) = false) (hc : [a, b].all (constantsAlone 8) = false) : swappedStores [.Tuple [.Name x px, .Name y py] kt pt] (.Tuple [a, b] k2 pt2) env = pure (some [x, y]) := by
  have kx : env.kindOf x = some .local := hx
  have ky : env.kindOf y = some .local := hy
  have sa := plain_star a
  have sb := plain_star b
  rw [ha] at sa
  rw [hb] at sb
  have hl' : py.line = px.line := eq_of_beq hl
  have e1 : (Expr.Name x px).pos.line = px.line := rfl
  have hb' := bk_fn hk
  have hxy' : (y == x) = false := by simpa using fun e : y = x => hxy e.symm
  unfold swappedStores
  simp [hb', hf, hc, kx, ky, List.filterMap, List.eraseDups, List.eraseDupsBy, List.eraseDupsBy.loop, sa, sb, e1, hl', hxy']
  intro h
  exfalso
  clear sa sb hf hc
  rcases h with h | h
  · cases a <;> first | exact Bool.noConfusion h | exact Bool.noConfusion ha
  · cases b <;> first | exact Bool.noConfusion h | exact Bool.noConfusion hb
theorem st_three {x y z : Str} {px py pz pt pt2 : Pos} {kt k2 : Nat} {a b c : Expr} {env : Env} (hk : env.scope.kind = .function) (hx : env.scope.names.lookup x = some .local) (hy : env.scope.names.lookup y = some .local) (hz : env.scope.names.lookup z = some .local)
    (hl : (py.line == px.line) = true) (hl2 : (pz.line == px.line) = true) (hxy : x ≠ y) (hxz : x ≠ z) (hyz : y ≠ z)
    (ha : plainE a = true) (hb : plainE b = true) (hcc : plainE c = true) (hf : [a, b, c].all (foldedForSure 8) = false) (hc : [a, b, c].all (constantsAlone 8) = false) : swappedStores [.Tuple [.Name x px, .Name y py, .Name z pz] kt pt] (.Tuple [a, b, c] k2 pt2) env = pure (some [x, y, z]) := by
  have kx : env.kindOf x = some .local := hx
  have ky : env.kindOf y = some .local := hy
  have kz : env.kindOf z = some .local := hz
  have hl' : py.line = px.line := eq_of_beq hl
  have hl2' : pz.line = px.line := eq_of_beq hl2
  have e1 : (Expr.Name x px).pos.line = px.line := rfl
  have hb' := bk_fn hk
  have hxy' : (y == x) = false := by simpa using fun e : y = x => hxy e.symm
  have hxz' : (z == x) = false := by simpa using fun e : z = x => hxz e.symm
  have hyz' : (z == y) = false := by simpa using fun e : z = y => hyz e.symm
  unfold swappedStores
  simp [hb', hf, hc, kx, ky, kz, List.filterMap, List.eraseDups, List.eraseDupsBy, List.eraseDupsBy.loop, e1, hl', hl2', hxy', hxz', hyz']
  intro h
  exfalso
  clear hf hc
  rcases h with h | h | h
  · cases a <;> first | exact Bool.noConfusion h | exact Bool.noConfusion ha
  · cases b <;> first | exact Bool.noConfusion h | exact Bool.noConfusion hb
  · cases c <;> first | exact Bool.noConfusion h | exact Bool.noConfusion hcc
/-- the pair is one constant -/
theorem st_folded {ts vs : List Expr} {kt k2 : Nat} {pt pt2 : Pos} {env : Env} (hf : vs.all (foldedForSure 8) = true) : swappedStores [.Tuple ts kt pt] (.Tuple vs k2 pt2) env = pure none := by
  unfold swappedStores
  simp [hf]
  repeat' split
  all_goals rfl
/-- a name of the pair is no plain local: the pair is made and taken apart -/
theorem st_mixed {x y : Str} {px py pt pt2 : Pos} {kt k2 : Nat} {a b : Expr} {env : Env} (hk : env.scope.kind = .function) (hx : env.scope.names.lookup x = some .cell ∨ env.scope.names.lookup y = some .cell) : swappedStores [.Tuple [.Name x px, .Name y py] kt pt] (.Tuple [a, b] k2 pt2) env = pure none := by
  have hb' := bk_fn hk
  have e1 : (Expr.Name x px).pos.line = px.line := rfl
  unfold swappedStores
  rcases hx with h | h
  · have kx : env.kindOf x = some .cell := h
    simp [hb', kx, List.filterMap, e1]
    intro _ _
    split <;> simp
  · have ky : env.kindOf y = some .cell := h
    simp [hb', ky, List.filterMap, e1]
    intro _ _
    split <;> simp
end PD
set_option linter.all false
set_option maxRecDepth 100000
set_option maxHeartbeats 1000000
/-! From text to the evaluator's forms: every statement. -/
namespace PD
open PySem PySem.Spec PyProof.Rows L2
structure GdS (X : Cx) (F : Fx) (W : Nat → Hp → Prop) (C : Ct) : Prop extends Gd X F W C where
  po : PassesOwn (model X.prog X.w) X.A X.env X.xe
  kind : X.env.scope.kind = .function
  ex : ∀ x n, C.excs.lookup x = some n → ∃ Ca bmB Bn newId initId, ExcBaseFacts Bn newId initId bmB ∧ PySem.W.excIn X.K Ca bmB newId = true ∧ X.mg x = some (.ref Ca) ∧ PySem.W.keepIn X.K (.ref Ca) = true ∧ Raises X (.ref Ca) ∧ F.cls n = Ca
  sb : C.sb = true → F.b0 = none
theorem GdS.keeps {X : Cx} {F : Fx} {W : Nat → Hp → Prop} {C : Ct} (G : GdS X F W C) (kp : List (D × V)) : GdS X (F.keeps kp) W C :=
  ⟨⟨G.N, G.nd, G.sc, G.top, G.calm, G.K, G.O, G.un, G.tk, G.fn, G.fb, G.gc, G.bl, G.lam⟩, G.po, G.kind, G.ex, G.sb⟩
def isLoc (C : Ct) (x : Str) : Bool := match C.sc.names.lookup x with
  | some .local => true
  | _ => false
def isCell (C : Ct) (x : Str) : Bool := match C.sc.names.lookup x with
  | some .cell => true
  | _ => false
theorem isLoc_ok {C : Ct} {x : Str} (h : isLoc C x = true) : C.sc.names.lookup x = some .local := by
  unfold isLoc at h
  split at h
  · assumption
  · cases h
theorem isCell_ok {C : Ct} {x : Str} (h : isCell C x = true) : C.sc.names.lookup x = some .cell := by
  unfold isCell at h
  split at h
  · assumption
  · cases h
theorem sws {t value : Expr} {l : Nat} {env : Env} (h : swapsWith value (some t) l env = pure false) : swapsWithSole [t] value l env = pure false := by
  unfold swapsWithSole
  exact h
section
variable (r : Rec)
/-- forms whose list is new, but comprehensions -/
def cNew (C : Ct) (e : Expr) : Option ME := match e with
  | .List es _ => (cEs r C es).bind fun ms => grd (decide (ms.len ≤ 1000)) (some (.lst ms))
  | .BinOp (.List es _) .Mult b _ => (cEs r C es).bind fun ms => grd (decide (ms.len ≤ 1000)) ((r C b).map fun n => .lrep ms n.1)
  | .BinOp a .Add b _ => (r C a).bind fun m => (r C b).map fun n => .bin .add m.1 n.1
  | .Call (.Name x _) args [] _ => (match C.fns.lookup x with
    | some (f, np, false, true) => (match args with
      | a :: es => grd (okName x && glB C.sc x) ((cEs r C (a :: es)).bind fun ms => grd (ms.len == np) (some (.call f ms)))
      | _ => none)
    | some _ => none
    | none => (match args with
      | [a] => grd (okName x && glB C.sc x && C.blts.contains x && plainE a && decide (x = "list")) ((r C a).map fun m => .blt .list m.1)
      | _ => none))
  | _ => none
/-- a comprehension that goes straight to its name -/
def swB (C : Ct) (x : Str) (py cpos : Pos) (scope : Scope) : Bool := isLoc C x && (py.line == cpos.line) && !(scope.names.any fun (n, k) => n == x && (k == .local || k == .cell))
def cAsg (C : Ct) (tg value : Expr) (spos : Pos) : Option MS := match tg with
  | .Name x py => (slotOf C.N x).bind fun i =>
    if C.O.contains i = true then
      (if (C.bag == some i) = true then (match value with
        | .Call (.Name f p) (a :: es) [] p' => grd C.sb (grd (locB C x) (match cNew r C (.Call (.Name f p) (a :: es) [] p') with
          | some (.call n ms) => some (.setbag i n ms)
          | _ => none))
        | _ => none)
      else (match value with
        | .Dict [] [] _ => grd (locB C x) (some (.dnew i))
        | .ListComp elt [⟨tg', iter, ifs, z⟩] scope cpos => grd (z == 0 && swB C x py cpos scope) ((cComp r C elt tg' iter ifs scope).bind fun m => grd (ss C.O m) (some (.asgO i m)))
        | _ => grd (locB C x && !isComp value) ((cNew r C value).bind fun m => grd (ss C.O m) (some (.asgO i m)))))
    else (match value with
      | .ListComp elt [⟨tg', iter, ifs, z⟩] scope cpos => if swB C x py cpos scope = true then grd (z == 0) ((cComp r C elt tg' iter ifs scope).bind fun m => grd (sf C.O m) (some (.asg (.nm i) m)))
        else grd (isCell C x) ((cG 12 C tg).bind fun t => (r C value).bind fun m => grd (sf C.O m.1) (some (.asg t m.1)))
      | _ => grd (!isComp value) ((cG 12 C tg).bind fun t => (r C value).bind fun m => grd (sf C.O m.1) (some (.asg t m.1))))
  | .Tuple ts _ _ => (match value with
    | .Tuple vs _ _ => if vs.all (foldedForSure 8) = true then (cG 12 C tg).bind fun t => (r C value).bind fun m => grd (sf C.O m.1) (some (.asg t m.1)) else (match ts, vs with
      | [.Name x px, .Name y py], [a, b] => if (isLoc C x && isLoc C y) = true then
          (slotOf C.N x).bind fun i => (slotOf C.N y).bind fun j => (r C a).bind fun m => (r C b).bind fun n =>
            grd ((py.line == px.line) && decide (x ≠ y) && decide (i ≠ j) && plainE a && plainE b && !([a, b].all (foldedForSure 8)) && !([a, b].all (constantsAlone 8)) && sf C.O m.1 && sf C.O n.1 && !C.O.contains i && !C.O.contains j) (some (.par i j m.1 n.1))
        else grd (isCell C x || isCell C y) ((cG 12 C tg).bind fun t => (r C value).bind fun m => grd (sf C.O m.1) (some (.asg t m.1)))
      | [.Name x px, .Name y py, .Name z pz], [a, b, c] =>
          (slotOf C.N x).bind fun i => (slotOf C.N y).bind fun j => (slotOf C.N z).bind fun l => (r C a).bind fun m => (r C b).bind fun n => (r C c).bind fun k =>
            grd (isLoc C x && isLoc C y && isLoc C z && (py.line == px.line) && (pz.line == px.line) && decide (x ≠ y) && decide (x ≠ z) && decide (y ≠ z) && decide (i ≠ j) && decide (i ≠ l) && decide (j ≠ l) && plainE a && plainE b && plainE c &&
              !([a, b, c].all (foldedForSure 8)) && !([a, b, c].all (constantsAlone 8)) && sf C.O m.1 && sf C.O n.1 && sf C.O k.1 && !C.O.contains i && !C.O.contains j && !C.O.contains l) (some (.par3 i j l m.1 n.1 k.1))
      | _, _ => none)
    | _ => grd (!isComp value && !isTup value) ((cG 12 C tg).bind fun t => (r C value).bind fun m => grd (sf C.O m.1) (some (.asg t m.1))))
  | .Subscript (.Name x p) k p2 => (slotOf C.N x).bind fun i => grd (okName x && visB C.sc x && !isComp value && !isSlice k) ((r C value).bind fun m => (r C k).bind fun n => grd (sf C.O m.1) (some (if C.dics.contains i = true then .dset i n.1 m.1 else .setL i n.1 m.1)))
  | _ => none
def cRet (C : Ct) (e : Expr) : Option MS := if C.new = true then (match e with
    | .Name x _ => (slotOf C.N x).bind fun i => grd (okName x && visB C.sc x) (some (.retO i))
    | .Call (.Name f _) (a :: es) [] _ => (match C.fns.lookup f with
      | some (n, np, false, true) => grd (okName f && glB C.sc f) ((cEs r C (a :: es)).bind fun ms => grd (ms.len == np) (some (.ret (.call n ms))))
      | _ => none)
    | _ => none)
  else (r C e).map fun m => .ret m.1
end
section
variable {X : Cx} {F : Fx} {W : Nat → Hp → Prop} {C : Ct} {r : Rec} {p pos : Pos}
theorem cNew_ok (S : Snd r) (G : Gd X F W C) {e : Expr} {m : ME} (h : cNew r C e = some m) : PE X e (tF F W m) := by
  unfold cNew at h
  split at h
  · simp only [grd_some, Option.bind_eq_some_iff, decide_eq_true_eq] at h
    obtain ⟨ms, hms, hl, e⟩ := h
    cases e
    exact d_lstF (cEs_ok S G hms).1 hl
  · simp only [grd_some, Option.bind_eq_some_iff, Option.map_eq_some_iff, decide_eq_true_eq] at h
    obtain ⟨ms, hms, hl, n, hn, rfl⟩ := h
    exact d_lrepF (cEs_ok S G hms).1 (S X F W C _ n.1 n.2 G hn).1 hl
  · simp only [Option.bind_eq_some_iff, Option.map_eq_some_iff] at h
    obtain ⟨m1, hm, n, hn, rfl⟩ := h
    exact d_addF G.K (S X F W C _ m1.1 m1.2 G hm).1 (S X F W C _ n.1 n.2 G hn).1
  · rename_i x p1 args p2
    split at h
    · rename_i f np hl
      split at h
      · rename_i a es
        simp only [grd_some, Option.bind_eq_some_iff, Bool.and_eq_true] at h
        obtain ⟨⟨hx, hg⟩, ms, hms, hn, e⟩ := h
        cases e
        obtain ⟨x1, x2, x3⟩ := okName_1 hx
        obtain ⟨h1, h2, h3⟩ := cEs_ok S G hms
        obtain ⟨k, g, fd, ps, q1, q2, q3, q4, q5⟩ := G.fn x f np true hl
        obtain ⟨hp, hps⟩ := Bool.and_eq_true_iff.mp (List.all_cons ▸ h2)
        exact d_callF q1 q2 (G.gl hg) q3 q4 q5 G.tk G.K (eq_of_beq hn) h1 x1 hp hps
      · cases h
    · cases h
    · split at h
      · rename_i a
        simp only [grd_some, Option.map_eq_some_iff, Bool.and_eq_true, decide_eq_true_eq] at h
        obtain ⟨⟨⟨⟨⟨hx, hg⟩, hb⟩, hp⟩, e⟩, m1, hm, rfl⟩ := h
        subst e
        obtain ⟨x1, x2, x3⟩ := okName_1 hx
        exact d_listF G.K (G.gl hg) (G.bl _ hb) (by decide +kernel) (S X F W C _ m1.1 m1.2 G hm).1 hp x3 x1
      · cases h
  · cases h
theorem swB_ok {x : Str} {py cpos spos : Pos} {scope : Scope} {elt tg iter : Expr} {ifs : List Expr} (G : GdS X F W C) (h : swB C x py cpos scope = true) : X.env.scope.names.lookup x = some .local ∧ swapsWith (.ListComp elt [⟨tg, iter, ifs, 0⟩] scope cpos) (some (.Name x py)) spos.line X.env = pure true := by
  simp only [swB, Bool.and_eq_true, Bool.not_eq_true'] at h
  have hl := isLoc_ok h.1.1
  rw [← G.sc] at hl
  exact ⟨hl, sw_true G.kind hl h.1.2 h.2⟩
theorem s_compP {i : Nat} {x : Str} {py spos cpos : Pos} {elt tg iter : Expr} {ifs : List Expr} {scope : Scope} {own : List (Str × Nat)} {me : ME} {t : Tgt} {mi : MI} {mc : MO} (G : GdS X F W C) (hi : X.N[i]? = some x) (h : swB C x py cpos scope = true) (k : CompOk X F W elt tg iter ifs scope own me t mi mc) :
    PS X (.Assign [.Name x py] (.ListComp elt [⟨tg, iter, ifs, 0⟩] scope cpos) spos) (tAsg (tF F W (.comp me t mi mc (own.map (·.2)))) (gName i)) := by
  obtain ⟨h1, h2⟩ := swB_ok (elt := elt) (tg := tg) (iter := iter) (ifs := ifs) (spos := spos) G h
  exact s_comp G.calm G.nd hi h1 h2 k.hi k.ok k.hO k.hidx k.hg k.ht k.he k.hs
/-- a plain store -/
theorem asg_plainT (S : Snd r) (G : GdS X F W C) {tg value : Expr} {t : Tgt} {m : ME × Bool} {spos : Pos} (ht : cG 12 C tg = some t) (hm : r C value = some m) (hs : sf C.O m.1 = true) (h1 : swapsWithSole [tg] value spos.line X.env = pure false) (h2 : swappedStores [tg] value X.env = pure none) :
    PS X (.Assign [tg] value spos) (tS F W C.new (.asg t m.1)) := by
  have hp : plainE tg = true := by
    cases tg <;> first | rfl | (simp only [cG] at ht; cases ht)
  exact s_asg (S X F W C _ m.1 m.2 G.toGd hm).1 (cG_ok G.toGd 12 ht) (by rw [G.O]; exact hs) h1 h2 (by rw [asg_plain hp]; rfl)
theorem nO {i : Nat} (G : Gd X F W C) (h : (!C.O.contains i) = true) : i ∉ F.O := by rw [G.O]; simpa using h
theorem yO {i : Nat} (G : Gd X F W C) (h : C.O.contains i = true) : i ∈ F.O := by rw [G.O]; simpa using h
theorem cAsg_ok (S : Snd r) (G : GdS X F W C) {tg value : Expr} {spos : Pos} {m : MS} (h : cAsg r C tg value spos = some m) : PS X (.Assign [tg] value spos) (tS F W C.new m) := by
  unfold cAsg at h
  split at h
  · rename_i x py
    simp only [Option.bind_eq_some_iff] at h
    obtain ⟨i, hi, h⟩ := h
    have hN := G.slot hi
    split at h
    · rename_i hO
      split at h
      · split at h
        · rename_i f p1 a es p2
          simp only [grd_some] at h
          obtain ⟨hsb, hlo, h⟩ := h
          split at h
          · rename_i n ms hn
            cases h
            obtain ⟨l1, l2⟩ := locB_ok G.toGd hlo
            exact s_setbag (ps_set G.nd hN l1 (cNew_ok S G.toGd hn) rfl l2) (fun _ _ _ q => q) (yO G.toGd hO) (G.sb hsb)
          · cases h
        · cases h
      · split at h
        · simp only [grd_some] at h
          obtain ⟨hlo, e⟩ := h
          cases e
          obtain ⟨l1, l2⟩ := locB_ok G.toGd hlo
          exact s_dnew (ps_set G.nd hN l1 pe_dI rfl l2) (fun _ _ _ q => q) (yO G.toGd hO)
        · rename_i elt tg' iter ifs z scope cpos
          simp only [grd_some, Option.bind_eq_some_iff, Bool.and_eq_true] at h
          obtain ⟨⟨hz, hsw⟩, m1, hm, hs, e⟩ := h
          cases e
          have hz := eq_of_beq hz
          subst hz
          obtain ⟨me, t, mi, mc, rfl, k⟩ := cComp_parts S G.toGd hm
          exact s_asgO (s_compP G hN hsw k) (fun _ _ _ q => q) (yO G.toGd hO) (by rw [G.O]; exact hs)
        · simp only [grd_some, Option.bind_eq_some_iff, Bool.and_eq_true, Bool.not_eq_true'] at h
          obtain ⟨⟨hlo, hc⟩, m1, hm, hs, e⟩ := h
          cases e
          obtain ⟨l1, l2⟩ := locB_ok G.toGd hlo
          exact s_asgO (ps_set G.nd hN l1 (cNew_ok S G.toGd hm) (sw_no hc) l2) (fun _ _ _ q => q) (yO G.toGd hO) (by rw [G.O]; exact hs)
    · rename_i hO
      have hO' : i ∉ F.O := by rw [G.O]; simpa using hO
      split at h
      · rename_i elt tg' iter ifs z scope cpos
        split at h
        · rename_i hsw
          simp only [grd_some, Option.bind_eq_some_iff] at h
          obtain ⟨hz, m1, hm, hs, e⟩ := h
          cases e
          have hz := eq_of_beq hz
          subst hz
          obtain ⟨me, t, mi, mc, rfl, k⟩ := cComp_parts S G.toGd hm
          exact s_asgC (s_compP G hN hsw k) (fun _ _ _ q => q) hO' (by rw [G.O]; exact hs)
        · simp only [grd_some, Option.bind_eq_some_iff] at h
          obtain ⟨hcell, t, ht, m1, hm, hs, e⟩ := h
          cases e
          have hcl := isCell_ok hcell
          rw [← G.sc] at hcl
          exact asg_plainT S G ht hm hs (sws (sw_cell hcl)) st_name
      · simp only [grd_some, Option.bind_eq_some_iff, Bool.not_eq_true'] at h
        obtain ⟨hc, t, ht, m1, hm, hs, e⟩ := h
        cases e
        exact asg_plainT S G ht hm hs (sws (sw_no hc)) st_name
  · rename_i ts k0 p0
    split at h
    · rename_i vs k1 p1
      split at h
      · rename_i hf
        simp only [grd_some, Option.bind_eq_some_iff] at h
        obtain ⟨t, ht, m1, hm, hs, e⟩ := h
        cases e
        exact asg_plainT S G ht hm hs rfl (st_folded hf)
      split at h
      · rename_i x px y py a b
        split at h
        · rename_i hl
          simp only [grd_some, Option.bind_eq_some_iff, Bool.and_eq_true, Bool.not_eq_true', decide_eq_true_eq] at h hl
          obtain ⟨i, hi, j, hj, m1, hm, n, hn, ⟨⟨⟨⟨⟨⟨⟨⟨⟨⟨c1, c2⟩, c3⟩, c4⟩, c5⟩, c6⟩, c7⟩, c8⟩, c9⟩, c10⟩, c11⟩, e⟩ := h
          cases e
          have lx := isLoc_ok hl.1
          have ly := isLoc_ok hl.2
          rw [← G.sc] at lx ly
          exact s_par G.calm G.nd (G.slot hi) (G.slot hj) c3 lx ly (S X F W C _ m1.1 m1.2 G.toGd hm).1 (S X F W C _ n.1 n.2 G.toGd hn).1 c4 c5 (by rw [G.O]; exact c8) (by rw [G.O]; exact c9) (by rw [G.O]; simpa using c10) (by rw [G.O]; simpa using c11)
            (st_two G.kind lx ly c1 c2 c4 c5 c6 c7) rfl
        · simp only [grd_some, Option.bind_eq_some_iff, Bool.or_eq_true] at h
          obtain ⟨hcl, t, ht, m1, hm, hs, e⟩ := h
          cases e
          refine asg_plainT S G ht hm hs rfl (st_mixed G.kind (hcl.imp (fun q => ?_) fun q => ?_)) <;> (rw [G.sc]; exact isCell_ok q)
      · rename_i x px y py z pz a b c
        simp only [grd_some, Option.bind_eq_some_iff, Bool.and_eq_true, Bool.not_eq_true', decide_eq_true_eq] at h
        obtain ⟨i, hi, j, hj, l, hl, m1, hm, n, hn, k, hk, ⟨⟨⟨⟨⟨⟨⟨⟨⟨⟨⟨⟨⟨⟨⟨⟨⟨⟨⟨⟨⟨d1, d2⟩, d3⟩, c1⟩, c2⟩, c3⟩, c4⟩, c5⟩, c6⟩, c7⟩, c8⟩, b1⟩, b2⟩, b3⟩, c9⟩, c10⟩, s1⟩, s2⟩, s3⟩, o1⟩, o2⟩, o3⟩, e⟩ := h
        cases e
        have lx := isLoc_ok d1
        have ly := isLoc_ok d2
        have lz := isLoc_ok d3
        rw [← G.sc] at lx ly lz
        exact s_par3 G.calm G.nd (G.slot hi) (G.slot hj) (G.slot hl) c6 c7 c8 lx ly lz (S X F W C _ m1.1 m1.2 G.toGd hm).1 (S X F W C _ n.1 n.2 G.toGd hn).1 (S X F W C _ k.1 k.2 G.toGd hk).1 b1 b2 b3
          (by rw [G.O]; exact s1) (by rw [G.O]; exact s2) (by rw [G.O]; exact s3) (by rw [G.O]; simpa using o1) (by rw [G.O]; simpa using o2) (by rw [G.O]; simpa using o3) (st_three G.kind lx ly lz c1 c2 c3 c4 c5 b1 b2 b3 c9 c10) rfl
      · cases h
    · simp only [grd_some, Option.bind_eq_some_iff, Bool.and_eq_true, Bool.not_eq_true'] at h
      obtain ⟨⟨hc, htp⟩, t, ht, m1, hm, hs, e⟩ := h
      cases e
      exact asg_plainT S G ht hm hs (sws (sw_no hc)) (st_tup htp)
  · rename_i x p0 k p2
    simp only [grd_some, Option.bind_eq_some_iff, Bool.and_eq_true, Bool.not_eq_true'] at h
    obtain ⟨i, hi, ⟨⟨⟨hx, hv⟩, hc⟩, hsl⟩, m1, hm, n, hn, hs, e⟩ := h
    cases e
    obtain ⟨x1, x2, x3⟩ := okName_1 hx
    split
    · exact s_dset G.K (by have := G.un; omega) (G.slot hi) (G.vis hv) x1 x2 (S X F W C _ n.1 n.2 G.toGd hn).1 (S X F W C _ m1.1 m1.2 G.toGd hm).1 (by rw [G.O]; exact hs) (sw_no hc)
    · refine s_setL (G.slot hi) (G.vis hv) x1 x2 (S X F W C _ m1.1 m1.2 G.toGd hm).1 (S X F W C _ n.1 n.2 G.toGd hn).1 (by rw [G.O]; exact hs) (fun v => ?_) (sws (sw_no hc)) st_sub rfl
      cases k <;> first | rfl | cases hsl
  · cases h
theorem cRet_ok (S : Snd r) (G : GdS X F W C) {e : Expr} {m : MS} (h : cRet r C e = some m) : PS X (.Return (some e) pos) (tS F W C.new m) := by
  unfold cRet at h
  split at h
  · split at h
    · rename_i x p1
      simp only [grd_some, Option.bind_eq_some_iff, Bool.and_eq_true] at h
      obtain ⟨i, hi, ⟨hx, hv⟩, e⟩ := h
      cases e
      obtain ⟨x1, x2, x3⟩ := okName_1 hx
      exact s_retO (G.slot hi) (G.vis hv) x1 x2
    · rename_i x p1 a es p2
      split at h
      · rename_i f np hl
        simp only [grd_some, Option.bind_eq_some_iff, Bool.and_eq_true] at h
        obtain ⟨⟨hx, hg⟩, ms, hms, hn, e⟩ := h
        cases e
        obtain ⟨x1, x2, x3⟩ := okName_1 hx
        obtain ⟨h1, h2, h3⟩ := cEs_ok S G.toGd hms
        obtain ⟨k, g, fd, ps, q1, q2, q3, q4, q5⟩ := G.fn x f np true hl
        obtain ⟨hp, hps⟩ := Bool.and_eq_true_iff.mp (List.all_cons ▸ h2)
        exact s_retF (d_callF q1 q2 (G.gl hg) q3 q4 q5 G.tk G.K (eq_of_beq hn) h1 x1 hp hps)
      · cases h
    · cases h
  · rename_i hn
    obtain ⟨n, hm, rfl⟩ := Option.map_eq_some_iff.mp h
    have hn : C.new = false := by simpa using hn
    rw [hn]
    exact s_ret (S X F W C _ n.1 n.2 G.toGd hm).1
end
end PD
set_option linter.all false
set_option maxRecDepth 100000
set_option maxHeartbeats 1000000
/-! From text to the evaluator's forms: bodies, defs. -/
namespace PD
open PySem PySem.Spec PyProof.Rows L2
abbrev RecS := Ct → List Stmt → Option MSs
def SndS (r : RecS) : Prop := ∀ (X : Cx) (F : Fx) (W : Nat → Hp → Prop) (C : Ct) (st : List Stmt) (m : MSs), GdS X F W C → r C st = some m → PSs X st (tSs F W C.new m)
def stepS (r : Rec) (q : RecS) (C : Ct) (st : Stmt) : Option MS := match st with
  | .Assign [tg] value pos => cAsg r C tg value pos
  | .Return (some e) _ => cRet r C e
  | .If c a b _ => (r C c).bind fun m => grd m.2 ((q C a).bind fun x => (q C b).map fun y => .ife m.1 x y)
  | .While c b [] _ => (r C c).bind fun m => grd m.2 ((q C b).map fun x => .whil m.1 x)
  | .For tg it b [] _ => grd (noSet it) ((cI r C tg it).bind fun mi => grd (sfI C.O mi) ((cG 12 C tg).bind fun t => (q C b).map fun x => .forr t mi x))
  | .Raise (some (.Call (.Name x _) [.Constant (.str _) _ _] [] _)) none _ => grd (okName x && glB C.sc x) ((C.excs.lookup x).map fun k => .raise k)
  | .Expr (.Call (.Attribute (.Name x _) nm p2) [a] [] p3) _ => grd (decide (nm = "append") && okName x && visB C.sc x && plainE a && (p2.endLine == p3.line)) ((slotOf C.N x).bind fun i => (r C a).bind fun m => grd (sf C.O m.1) (some (.app i m.1)))
  | .Expr e _ => grd (!isComp e) ((r C e).map fun m => .expr m.1)
  | _ => none
def stepSs (q : Ct → Stmt → Option MS) (C : Ct) : List Stmt → Option MSs
  | [] => some .nil
  | st :: r => (q C st).bind fun s => (stepSs q C r).map fun x => .cons s x
def cSs : Nat → RecS
  | 0 => fun _ _ => none
  | n + 1 => stepSs (stepS (cE n) (cSs n))
theorem stepS_ok {r : Rec} {q : RecS} (S : Snd r) (T : SndS q) {X : Cx} {F : Fx} {W : Nat → Hp → Prop} {C : Ct} {st : Stmt} {m : MS} (G : GdS X F W C) (h : stepS r q C st = some m) : PS X st (tS F W C.new m) := by
  unfold stepS at h
  split at h
  · exact cAsg_ok S G h
  · exact cRet_ok S G h
  · simp only [grd_some, Option.bind_eq_some_iff, Option.map_eq_some_iff] at h
    obtain ⟨k, hk, hb, x, hx, y, hy, rfl⟩ := h
    exact s_if ((S X F W C _ k.1 k.2 G.toGd hk).2 hb) (T X F W C _ _ G hx) (T X F W C _ _ G hy)
  · simp only [grd_some, Option.bind_eq_some_iff, Option.map_eq_some_iff] at h
    obtain ⟨k, hk, hb, x, hx, rfl⟩ := h
    exact s_while G.po ((S X F W C _ k.1 k.2 G.toGd hk).2 hb) (T X F W C _ _ G hx)
  · simp only [grd_some, Option.bind_eq_some_iff, Option.map_eq_some_iff] at h
    obtain ⟨hs, mi, hmi, hsf, t, ht, x, hx, rfl⟩ := h
    exact s_for G.po G.calm (cI_ok S G.toGd hmi) (by rw [G.O]; exact hsf) (fun kp => cG_ok (G.keeps kp).toGd 12 ht) (fun kp => T X _ W C _ _ (G.keeps kp) hx) (noSet_ok hs)
  · simp only [grd_some, Option.map_eq_some_iff, Bool.and_eq_true] at h
    obtain ⟨⟨hx, hg⟩, k, hk, rfl⟩ := h
    obtain ⟨x1, x2, x3⟩ := okName_1 hx
    obtain ⟨Ca, bmB, Bn, nI, iI, q1, q2, q3, q4, q5, q6⟩ := G.ex _ k hk
    exact s_raise G.calm G.tk q1 q2 q3 q4 q5 (G.gl hg) x1 q6
  · simp only [grd_some, Option.bind_eq_some_iff, Bool.and_eq_true, decide_eq_true_eq] at h
    obtain ⟨⟨⟨⟨⟨rfl, hx⟩, hv⟩, hp⟩, hl⟩, i, hi, k, hk, hs, e⟩ := h
    cases e
    obtain ⟨x1, x2, x3⟩ := okName_1 hx
    exact s_app (G.slot hi) (G.vis hv) x1 x2 (S X F W C _ k.1 k.2 G.toGd hk).1 hp (by rw [G.O]; exact hs) hl
  · simp only [grd_some, Option.map_eq_some_iff, Bool.not_eq_true'] at h
    obtain ⟨hc, k, hk, rfl⟩ := h
    exact s_expr (S X F W C _ k.1 k.2 G.toGd hk).1 (sw_no hc)
  · cases h
theorem stepSs_ok {r : Rec} {q : RecS} (S : Snd r) (T : SndS q) : SndS (stepSs (stepS r q)) := by
  intro X F W C st
  induction st with
  | nil => intro m G h; simp only [stepSs, Option.some.injEq] at h; subst h; exact s_nil
  | cons s rest ih =>
    intro m G h
    simp only [stepSs, Option.bind_eq_some_iff, Option.map_eq_some_iff] at h
    obtain ⟨a, ha, x, hx, rfl⟩ := h
    exact s_cons (stepS_ok S T G ha) (ih x G hx)
theorem cSs_ok : ∀ n : Nat, SndS (cSs n)
  | 0 => fun X F W C e m G h => nomatch h
  | n + 1 => stepSs_ok (cE_ok n) (cSs_ok n)
end PD
set_option linter.all false
set_option maxRecDepth 100000
set_option maxHeartbeats 1000000
/-! Defs keep their promises. -/
namespace PD
open PySem PySem.Spec PyProof.Rows L2
/-- what stands fast while a law runs -/
structure Wd where
  P : Program
  w : World
  K : PySem.W.Frag
  mg : Str → Option Value
  base : Heap
  T : List (Addr × Str)
  cls : Nat → Addr
  Pg : Prog
abbrev Fns := List (Str × Nat × Nat × Bool × Bool)
/-- a def known by its name, at a depth -/
def Wd.has (U : Wd) (n : Nat) (x : Str) (f np : Nat) (new : Bool) : Prop := ∃ g fd ps, FnOk U.P U.w U.K U.mg U.base (L2N.CX U.P U.w) (3 * n) g fd ps (spP U.T U.cls (callP U.Pg n) new U.K f np) ∧ U.mg x = some (.ref g) ∧ PySem.W.keepIn U.K (.ref g) = true ∧ Binds U.K fd ps []
def Wd.hasB (U : Wd) (n : Nat) (x : Str) (f np : Nat) : Prop := ∃ g fd ps, FnOk U.P U.w U.K U.mg U.base (L2N.CX U.P U.w) (3 * n) g fd ps (spB U.T U.cls (callB U.Pg n) U.K f np) ∧ U.mg x = some (.ref g) ∧ PySem.W.keepIn U.K (.ref g) = true ∧ Binds U.K fd ps []
structure Wd.knows (U : Wd) (n : Nat) (fns : Fns) : Prop where
  p : ∀ x f np new, fns.lookup x = some (f, np, false, new) → U.has n x f np new
  b : ∀ x f np new, fns.lookup x = some (f, np, true, new) → U.hasB n x f np
/-- constants, exceptions, built-ins -/
structure Wd.facts (U : Wd) (gcs excs : List (Str × Nat)) (blts : List Str) : Prop where
  gc : ∀ x n, gcs.lookup x = some n → ∃ v u, U.mg x = some u ∧ RelV v u ∧ ∀ H A, Dv U.K H A (U.Pg.gc n) v
  bl : ∀ x, blts.contains x = true → U.mg x = none
  ex : ∀ x n, excs.lookup x = some n → ∃ Ca bmB Bn newId initId, ExcBaseFacts Bn newId initId bmB ∧ PySem.W.excIn U.K Ca bmB newId = true ∧ U.mg x = some (.ref Ca) ∧ PySem.W.keepIn U.K (.ref Ca) = true ∧
    (PySem.W.subIn U.K (.ref Ca) (.type "BaseException") = some true ∧ PySem.W.typeIn U.K (.ref Ca) = some (.type "type")) ∧ U.cls n = Ca
def Wd.fx (U : Wd) (n : Nat) (H : Hp) (b0 : Option Addr) (A0 : Addr → Prop) (O : List Nat) : Fx := ⟨U.K, U.T, H, b0, A0, O, tab U.Pg n, U.cls, []⟩
section
variable {U : Wd} {n : Nat}
theorem gdS {C : Ct} {qual : Str} {scope : Scope} {f : Addr} {cdv : Value} {A : Around} {outer : List Env} {s : Shared} {H : Hp} {E : XK} {b0 : Option Addr} {A0 : Addr → Prop} (kn : U.knows n C.fns) (fc : U.facts C.gcs C.excs C.blts) (hnd : C.N.Nodup) (hsc : C.sc = scope) (hk : scope.kind = .function) (hsb : C.sb = true → b0 = none)
    (hr : Room (3 * n) (A.deeper (envOfC qual scope s.heap.objs.size f cdv)))
    (lm : ∀ x lb, C.lams.lookup x = some lb → ∀ kp, LamRule (cxOf (L2N.CX U.P U.w) U.P U.w U.K U.mg U.base C.N qual scope f cdv A outer s H E) { U.fx n H b0 A0 C.O with kp := kp } x lb (3 * n)) : GdS (cxOf (L2N.CX U.P U.w) U.P U.w U.K U.mg U.base C.N qual scope f cdv A outer s H E) (U.fx n H b0 A0 C.O) (fun c H' => E (.ref (U.cls c)) none H') C := by
  have tk : L2N.Takes (cxOf (L2N.CX U.P U.w) U.P U.w U.K U.mg U.base C.N qual scope f cdv A outer s H E) (fun cls d _ H => E cls d H) := L2N.takes_of rfl rfl rfl rfl
  refine ⟨⟨rfl, hnd, hsc.symm, fun _ _ => rfl, rfl, rfl, rfl, ?_, ⟨_, tk, fun c σ H' h => h⟩, fun x i np new h => ?_, fun x i np new h => ?_, fc.gc, fc.bl, fun x lb h => ⟨3 * n, lm x lb h, fun x i np new h => ?_, fun x i np new h => ?_⟩⟩, passes_of rfl, hk, fun x i h => ?_, hsb⟩
  · have := hr.un
    show (A.deeper (envOfC qual scope s.heap.objs.size f cdv)).units + 65 < cLine
    omega
  · obtain ⟨g, fd, ps, h1, h2, h3, h4⟩ := kn.p x i np new h
    exact ⟨3 * n, g, fd, ps, h1, hr, h2, h3, h4⟩
  · obtain ⟨g, fd, ps, h1, h2, h3, h4⟩ := kn.b x i np new h
    exact ⟨3 * n, g, fd, ps, h1, hr, h2, h3, h4⟩
  · obtain ⟨g, fd, ps, h1, h2, h3, h4⟩ := kn.p x i np new h
    exact ⟨3 * n, g, fd, ps, h1, Nat.le_refl _, h2, h3, h4⟩
  · obtain ⟨g, fd, ps, h1, h2, h3, h4⟩ := kn.b x i np new h
    exact ⟨3 * n, g, fd, ps, h1, Nat.le_refl _, h2, h3, h4⟩
  · obtain ⟨Ca, bmB, Bn, nI, iI, h1, h2, h3, h4, h5, h6⟩ := fc.ex x i h
    exact ⟨Ca, bmB, Bn, nI, iI, h1, h2, h3, h4, raises_own h5.1 h5.2, h6⟩
theorem start_val {ds : List D} {k i : Nat} {d : D} (h : (ds.map Sl.val ++ List.replicate k Sl.emp)[i]? = some (.val d)) : ds[i]? = some d := by
  by_cases hi : i < ds.length
  · rw [List.getElem?_append_left (by simpa using hi), List.getElem?_map] at h
    cases q : ds[i]? with
    | none => rw [q] at h; cases h
    | some x => rw [q] at h; cases h; rfl
  · rw [List.getElem?_append_right (by simpa using hi), List.getElem?_replicate] at h
    split at h <;> cases h
theorem start_only {ds : List D} {k i : Nat} {s : Sl} (h : (ds.map Sl.val ++ List.replicate k Sl.emp)[i]? = some s) : s = .emp ∨ ∃ d, s = .val d := by
  have m := List.mem_of_getElem? h
  rcases List.mem_append.mp m with m | m
  · obtain ⟨d, _, rfl⟩ := List.mem_map.mp m
    exact .inr ⟨d, rfl⟩
  · exact .inl (List.eq_of_mem_replicate m)
theorem start_slot {N : List Str} {vs : List V} {i : Nat} {v : V} (h : vs[i]? = some v) : (L2.start N vs)[i]? = some (some v) := by
  unfold L2.start
  have hi := (List.getElem?_eq_some_iff.mp h).1
  rw [List.getElem?_append_left (by simpa using hi), List.getElem?_map, h]
  rfl
theorem start_len {N : List Str} {vs : List V} : (L2.start N vs).length = vs.length + (N.length - vs.length) := by
  unfold L2.start
  simp
/-- where a def begins -/
theorem si_start {F : Fx} {N : List Str} {ds : List D} {vs : List V} (hb : F.b0 = none) (hk : F.kp = []) (ht : LamX.Tabs F.T F.H0) (hd : Dom F.A0 F.H0) (hv : DvAll F.K F.H0 F.A0 ds vs) : SI F (L2.start N vs) F.H0 (ds.map .val ++ List.replicate (N.length - ds.length) .emp) [] := by
  have no : ∀ {i : Nat} {s : Sl}, (ds.map Sl.val ++ List.replicate (N.length - ds.length) Sl.emp)[i]? = some s → s = .emp ∨ ∃ d, s = .val d := fun h => start_only h
  have nown : ∀ i : Nat, ¬ Own (ds.map Sl.val ++ List.replicate (N.length - ds.length) Sl.emp) i := fun i h => by
    rcases h with h | ⟨_, h⟩
    · rcases no h with z | ⟨_, z⟩ <;> cases z
    · rcases no h with z | ⟨_, z⟩ <;> cases z
  refine ⟨?_, .refl, ht, hd, fun i d h => ?_, fun i es h => absurd (.inr ⟨es, h⟩) (nown i), fun i h => absurd (.inl h) (nown i), fun i j a h => absurd h (nown i), fun i j h => absurd (.inl h) (nown i), fun b h => ?_, fun p hp => ?_, fun i kvs h => (by rcases no h with z | ⟨_, z⟩ <;> cases z), fun i a fs h => (by rcases no h with z | ⟨_, z⟩ <;> cases z)⟩
  · rw [start_len, hv.length]; simp
  · obtain ⟨v, h1, h2⟩ := hv.get (start_val h)
    exact ⟨v, start_slot h1, h2.less fun a q => q.elim id fun ⟨j, q, _⟩ => absurd q (nown j)⟩
  · rw [hb] at h; cases h
  · rw [hk] at hp; cases hp
/-- the body of a def without the bag -/
theorem def_body {C : Ct} {qual : Str} {body : List Stmt} {scope : Scope} {f : Addr} {ps : List Str} {id : Nat} {g : Fn} {fuel : Nat} (kn : U.knows n C.fns) (fc : U.facts C.gcs C.excs C.blts) (S : FnScope C.N ps scope)
    (hsc : C.sc = scope) (hc : cSs fuel C body = some g.body) (hnat : U.Pg.nat id = none) (hfn : U.Pg.fn id = some g) (hnp : g.np = ps.length) (hnl : g.nl = C.N.length) (hbag : g.bag = false) {cdv : Value} {A : Around} {outer : List Env} {s : Shared} {H : Hp} {vs : List V} {Q : VK} {E : XK}
    (hr : Room (3 * n) (A.deeper (envOfC qual scope s.heap.objs.size f cdv)))
    (lm : ∀ x lb, C.lams.lookup x = some lb → ∀ A0 kp, LamRule (cxOf (L2N.CX U.P U.w) U.P U.w U.K U.mg U.base C.N qual scope f cdv A outer s H E) { U.fx n H none A0 C.O with kp := kp } x lb (3 * n)) (h : spP U.T U.cls (callP U.Pg (n + 1)) C.new U.K id ps.length vs H Q E) :
    ∃ t, PSs (cxOf (L2N.CX U.P U.w) U.P U.w U.K U.mg U.base C.N qual scope f cdv A outer s H E) body t ∧ t { nx := fun _ H' => Q .non H', rt := Q } (L2.start C.N vs) H := by
  obtain ⟨hl, A0, ds, dA, hT, hv, h⟩ := h
  have G := gdS (U := U) (n := n) (C := C) (qual := qual) (scope := scope) (f := f) (cdv := cdv) (A := A) (outer := outer) (s := s) (H := H) (E := E) (b0 := none) (A0 := A0) kn fc S.nd hsc S.kind (fun _ => rfl) hr fun x lb h => lm x lb h A0
  refine ⟨_, cSs_ok fuel _ _ _ C body g.body G hc, _, [], si_start (F := U.fx n H none A0 C.O) (N := C.N) (ds := ds) rfl rfl hT dA hv, ?_⟩
  have hdl : ds.length = g.np := by rw [hnp, ← hl, hv.length]
  have hst : startE g ds = ds.map .val ++ List.replicate (C.N.length - ds.length) .emp := by
    unfold startE
    rw [hbag, hnl, hdl]
    rfl
  have hcall : callP U.Pg (n + 1) id ds = (match endD (evSs (tab U.Pg n) g.body (startE g ds) []) with
      | .ok (d, _) => .ok d
      | .err c => .err c
      | .stuck => .stuck) := by
    simp only [callP, hnat, hfn, hbag, hdl]
    rfl
  rw [hcall, hst] at h
  show Wish (U.fx n H none A0 C.O) _ C.new (evSs (tab U.Pg n) g.body _ []) _
  cases q : evSs (tab U.Pg n) g.body (ds.map .val ++ List.replicate (C.N.length - ds.length) .emp) [] with
  | stuck => rw [q] at h; exact h
  | err c =>
    rw [q] at h
    exact fun H' x => h H' (x.mono fun _ z => by cases z)
  | ok pr =>
    obtain ⟨y, B'⟩ := pr
    rw [q] at h
    cases y with
    | nx e' => exact fun σ' H' I' => h .non H' (I'.ext.mono fun _ z => by cases z) .ofN fun _ ⟨ds, z⟩ => (by cases z)
    | rt d => exact fun v H' r => h v H' (r.ext.mono fun _ z => by cases z) r.dv r.new
/-- a def without the bag -/
theorem def_ok {C : Ct} {x qual : Str} {params : Arguments} {body : List Stmt} {scope : Scope} {f : Addr} {fd : FuncData} {ps : List Str} {id : Nat} {g : Fn} {fuel : Nat} (kn : U.knows n C.fns) (fc : U.facts C.gcs C.excs C.blts) (Fd : FunD U.K x qual params body scope [] [] f fd) (S : FnScope C.N ps scope)
    (hsc : C.sc = scope) (hc : cSs fuel C body = some g.body) (hnat : U.Pg.nat id = none) (hfn : U.Pg.fn id = some g) (hnp : g.np = ps.length) (hnl : g.nl = C.N.length) (hbag : g.bag = false) (hlm : C.lams = []) :
    FnOk U.P U.w U.K U.mg U.base (L2N.CX U.P U.w) (3 * (n + 1)) f fd ps (spP U.T U.cls (callP U.Pg (n + 1)) C.new U.K id ps.length) :=
  Fd.ok (k := 3 * n + 2) S (fun vs H Q E h => h.1) fun cdv A outer s H vs Q E hr h => def_body kn fc S hsc hc hnat hfn hnp hnl hbag (hr.mono (by omega)) (fun x lb hx => by rw [hlm] at hx; cases hx) h
theorem si_startB {F : Fx} {N : List Str} {ds : List D} {us : List V} {b : Addr} {B : Bg} (hb : F.b0 = some b) (hO : 0 ∈ F.O) (hk : F.kp = []) (ht : LamX.Tabs F.T F.H0) (hd : Dom F.A0 F.H0) (hA : F.A0 b) (hB : F.H0 b = some (.lst (B.map V.int))) (hv : DvAll F.K F.H0 F.A0 ds us) :
    SI F (L2.start N (.ref b :: us)) F.H0 (.bag :: (ds.map .val ++ List.replicate (N.length - (ds.length + 1)) .emp)) B := by
  have no : ∀ {i : Nat} {s : Sl}, (ds.map Sl.val ++ List.replicate (N.length - (ds.length + 1)) Sl.emp)[i]? = some s → s = .emp ∨ ∃ d, s = .val d := fun h => start_only h
  have nown : ∀ i : Nat, Own (.bag :: (ds.map Sl.val ++ List.replicate (N.length - (ds.length + 1)) Sl.emp)) i → i = 0 := fun i h => by
    cases i with
    | zero => rfl
    | succ i =>
      unfold Own at h
      rcases h with h | ⟨_, h⟩
      · rcases no (by simpa using h) with z | ⟨_, z⟩ <;> cases z
      · rcases no (by simpa using h) with z | ⟨_, z⟩ <;> cases z
  have s0 : (L2.start N (.ref b :: us))[0]? = some (some (.ref b)) := start_slot rfl
  refine ⟨?_, .refl, ht, hd, fun i d h => ?_, fun i es h => ?_, fun i h => ?_, fun i j a h1 h2 _ _ => (nown i h1).trans (nown j h2).symm, fun i j h1 h2 => (nown i (.inl h1)).trans (nown j (.inl h2)).symm, fun c h => ?_, fun p hp => ?_, fun i kvs h => (by
    cases i with
    | zero => simp at h
    | succ i => rcases no (by simpa using h) with z | ⟨_, z⟩ <;> cases z), fun i a fs h => (by
    cases i with
    | zero => simp at h
    | succ i => rcases no (by simpa using h) with z | ⟨_, z⟩ <;> cases z)⟩
  · rw [start_len, List.length_cons, List.length_cons, hv.length]; simp; omega
  · cases i with
    | zero => simp at h
    | succ i =>
      obtain ⟨v, h1, h2⟩ := hv.get (start_val (by simpa using h))
      refine ⟨v, start_slot (by simpa using h1), h2.less fun a q => q.elim _root_.id fun ⟨j, q, hs⟩ => ?_⟩
      have := nown j q
      subst this
      rw [s0] at hs
      cases hs
      exact hA
  · have := nown i (.inr ⟨es, h⟩)
    subst this
    simp at h
  · have := nown i (.inl h)
    subst this
    exact ⟨hO, b, s0, hB, .inl hb⟩
  · rw [hb] at h; cases h
    exact ⟨0, rfl, s0⟩
  · rw [hk] at hp; cases hp
theorem defB_ok {C : Ct} {x qual : Str} {params : Arguments} {body : List Stmt} {scope : Scope} {f : Addr} {fd : FuncData} {ps : List Str} {id : Nat} {g : Fn} {fuel : Nat} (kn : U.knows n C.fns) (fc : U.facts C.gcs C.excs C.blts) (Fd : FunD U.K x qual params body scope [] [] f fd) (S : FnScope C.N ps scope)
    (hsc : C.sc = scope) (hc : cSs fuel C body = some g.body) (hfn : U.Pg.fn id = some g) (hnp : g.np = ps.length) (hnl : g.nl = C.N.length) (hbag : g.bag = true) (hO : 0 ∈ C.O) (hsb : C.sb = false) (hnew : C.new = false) (hlm : C.lams = []) :
    FnOk U.P U.w U.K U.mg U.base (L2N.CX U.P U.w) (3 * (n + 1)) f fd ps (spB U.T U.cls (callB U.Pg (n + 1)) U.K id ps.length) := by
  refine Fd.ok (k := 3 * n + 2) S (fun vs H Q E h => h.1) fun cdv A outer s H vs Q E hr h => ?_
  obtain ⟨hl, A0, ds, b, B, us, rfl, dA, hT, hA, hB, hv, h⟩ := h
  have G := gdS (U := U) (n := n) (C := C) (qual := qual) (scope := scope) (f := f) (cdv := cdv) (A := A) (outer := outer) (s := s) (H := H) (E := E) (b0 := some b) (A0 := A0) kn fc S.nd hsc S.kind (fun z => by rw [hsb] at z; cases z) (hr.mono (by omega)) fun x lb hx => by rw [hlm] at hx; cases hx
  refine ⟨_, cSs_ok fuel _ _ _ C body g.body G hc, _, B, si_startB (F := U.fx n H (some b) A0 C.O) (N := C.N) (ds := ds) rfl hO rfl hT dA hA hB hv, ?_⟩
  have hdl : ds.length + 1 = g.np := by rw [hnp, ← hl, List.length_cons, hv.length]
  have hst : startE g ds = .bag :: (ds.map .val ++ List.replicate (C.N.length - (ds.length + 1)) .emp) := by
    unfold startE
    rw [hbag, hnl, hdl]
    rfl
  have hcall : callB U.Pg (n + 1) id ds B = endD (evSs (tab U.Pg n) g.body (startE g ds) B) := by
    simp only [callB, hfn, hbag, hdl]
    rfl
  rw [hcall, hst] at h
  show Wish (U.fx n H (some b) A0 C.O) _ C.new (evSs (tab U.Pg n) g.body _ B) _
  cases q : evSs (tab U.Pg n) g.body (.bag :: (ds.map .val ++ List.replicate (C.N.length - (ds.length + 1)) .emp)) B with
  | stuck => rw [q] at h; exact h
  | err c =>
    rw [q] at h
    exact fun H' x => h H' x
  | ok pr =>
    obtain ⟨y, B'⟩ := pr
    rw [q] at h
    cases y with
    | nx e' =>
      intro σ' H' I'
      obtain ⟨i, h1, h2⟩ := I'.b0 b rfl
      obtain ⟨_, b', e1, e2, _⟩ := I'.bag i h1
      rw [h2] at e1; cases e1
      exact h .non H' I'.ext e2 .ofN
    | rt d => exact fun v H' r => h v H' r.ext (r.bag b rfl) r.dv
end
end PD
set_option linter.all false
set_option maxRecDepth 100000
set_option maxHeartbeats 2000000
/-! While an exception is handled: ends of iterators, unpacking. -/
namespace PD
open PySem PySem.Spec PyProof.Rows L2 HotX
section
variable {prog : Program} {w : World} {A : Around} {E : Value → Shared → Prop} {s : Shared}
theorem _root_.HotX.HotAt.in1 {x1 : Addr} {h : Heap} (hot : HotAt A x1 h) : HotAt A.in1 x1 h := hot
theorem _root_.HotX.HotAt.to {x1 : Addr} {h h' : Heap} (hot : HotAt A x1 h) (k : ∀ o, h.get? x1 = some o → h'.get? x1 = some o) : HotAt A x1 h' := by
  obtain ⟨hh, o, vs, e, d, c⟩ := hot
  exact ⟨hh, o, vs, k o e, d, c⟩
/-- the exception is no object of other fields -/
theorem _root_.HotX.HotAt.ne {x1 b : Addr} {h : Heap} {o : Obj} {vs : Array Value} (hot : HotAt A x1 h) (e : h.get? b = some o) (d : o.data = .fields vs) (n : vs[2]? ≠ some .none) : x1 ≠ b := fun q => by
  obtain ⟨_, o1, v1, e1, d1, c1⟩ := hot
  rw [q, e] at e1
  cases e1
  rw [d] at d1
  cases d1
  exact n c1
/-- StopIteration, raised -/
theorem stop_hot {α : Type} {x1 : Addr} {Q : α → Shared → Prop} (hot : HotAt A x1 s.heap)
    (h : ∀ h' e, (∀ b o, s.heap.get? b = some o → h'.get? b = some o) → (∃ o, h'.get? e = some o ∧ o.cls = .type "StopIteration") → E (.ref e) { s with heap := h' }) :
    wpAny (model prog w) A (newExc (.type "StopIteration") [] >>= fun e => (raiseNew e : Sem α)) Q E s := by
  refine wpAny_bind ?_
  simp only [newExc, newTuple]
  refine wpAny_bind (wpAny_newObj_type ?_ (by size_fits))
  refine wpAny_bind (m := firstArgMember _ _) (wpAny_of_eq (a := Value.none) (by first | rfl | (simp only [firstArgMember]; rfl)) ?_)
  refine wpAny_newObj_type ?_ (by size_fits)
  obtain ⟨hh, o1, v1, e1, d1, c1⟩ := id hot
  refine raiseNew_hot (hot.to fun o e => Heap.get?_push_of_some _ (Heap.get?_push_of_some _ e)) (Nat.ne_of_lt (Heap.lt_size (Heap.get?_push_of_some _ e1))) (Heap.get?_push_size _ rfl) rfl (by first | (simp; done) | (simp; omega) | (simp only [Array.size_append]; simp; omega)) ?_
  refine h _ _ (fun b o e => ?_) ⟨_, Heap.get?_update_self _ (Heap.get?_push_size _ rfl) rfl, rfl⟩
  rw [Heap.get?_update_other _ _ (Nat.ne_of_gt (Heap.lt_size (Heap.get?_push_of_some _ e)))]
  exact Heap.get?_push_of_some _ (Heap.get?_push_of_some _ e)
/-- a list's iterator at its end -/
theorem listEnd_hot {it l x1 : Addr} {i : Nat} {ys : Array Value} {Q : Value → Shared → Prop} (hot : HotAt A x1 s.heap) (hit : s.heap.IsListIter it l i) (hl : s.heap.IsList l ys) (hx : ys[i]? = none)
    (hE : ∀ h' e, Heap.ExtBut it s.heap h' → (∃ o, h'.get? e = some o ∧ o.cls = .type "StopIteration") → E (.ref e) { s with heap := h' }) : wpAny (model prog w) A (Builtin.SmallTypes.nextOf (.ref it)) Q E s := by
  obtain ⟨o, ho, hc, hd⟩ := id hit
  obtain ⟨ol, hol, _, nl, hdl⟩ := hl
  have hne := hot.ne ho hd (by simp)
  unfold Builtin.SmallTypes.nextOf
  refine wpAny_bind (wpAny_callSpecial?_slot (name := Str.ofString "__next__") hit.typeIs slot_listiter_next (wpAny_call_entry slot_listiter_next hit.typeIs entry_listiter_next ?_ (args_listiter_next _)))
  show wpAny _ _ (field (.ref it) 0 >>= _) _ _ s
  refine wpAny_bind (wpAny_field ho hd (x := .ref l) rfl ?_)
  show wpAny _ _ (if (Value.ref l == Value.none) = true then _ else _) _ _ s
  rw [if_neg (show ¬ ((Value.ref l == Value.none) = true) from Bool.false_ne_true)]
  show wpAny _ _ (field (.ref it) 1 >>= _) _ _ s
  refine wpAny_bind (wpAny_field ho hd (x := .int i 0) rfl (wpAny_bind (wpAny_seqItems hol hdl ?_)))
  simp only [Int.toNat_natCast, hx]
  refine wpAny_bind (wpAny_rule (wpAny_bind (wpAny_setField ho hd (by simp) ?_)))
  refine stop_hot (hot.in1.to fun o e => by rw [Heap.get?_update_other _ _ (Ne.symm hne)]; exact e) fun h' e k he => hE h' e (fun b o' hb e' => k b o' ?_) he
  rw [Heap.get?_update_other _ _ (Ne.symm hb)]
  exact e'
theorem tupEnd_hot {it t x1 : Addr} {i : Nat} {ys : Array Value} {Q : Option Value → Shared → Prop} (hot : HotAt A x1 s.heap) (hit : IsTupIter s.heap it t i) (ht : IsTup s.heap t ys) (hx : ys[i]? = none)
    (hQ : ∀ h', Heap.ExtBut it s.heap h' → Q none { s with heap := h' }) : wpAny (model prog w) A (pyNext (.ref it)) Q E s := by
  obtain ⟨o, ho, hc, hd⟩ := id hit
  obtain ⟨ol, hol, _, nl, hdl⟩ := ht
  have hne := hot.ne ho hd (by simp)
  unfold pyNext
  refine wpAny_bind (wpAny_attempt (wpAny_callSpecial?_slot (name := Str.ofString "__next__") hit.typeIs slot_tupleiter_next (wpAny_call_entry slot_tupleiter_next hit.typeIs entry_tupleiter_next ?_ (args_tupleiter_next _))))
  show wpAny _ _ (field (.ref it) 0 >>= _) _ _ s
  refine wpAny_bind (wpAny_field ho hd (x := .ref t) rfl ?_)
  show wpAny _ _ (if (Value.ref t == Value.none) = true then _ else _) _ _ s
  rw [if_neg (show ¬ ((Value.ref t == Value.none) = true) from Bool.false_ne_true)]
  show wpAny _ _ (field (.ref it) 1 >>= _) _ _ s
  refine wpAny_bind (wpAny_field ho hd (x := .int i 0) rfl (wpAny_bind (wpAny_seqItems hol hdl ?_)))
  simp only [Int.toNat_natCast, hx]
  refine wpAny_bind (wpAny_rule (wpAny_bind (wpAny_setField ho hd (by simp) ?_)))
  refine stop_hot (hot.in1.to fun o e => by rw [Heap.get?_update_other _ _ (Ne.symm hne)]; exact e) fun h' e k he => ?_
  obtain ⟨oe, q1, q2⟩ := he
  refine wpAny_bind (wpAny_isInstance (T := "StopIteration") (b := true) ⟨oe, q1, q2⟩ isSubtype_stop (wpAny_pure (hQ _ fun b o' hb e' => k b o' ?_)))
  rw [Heap.get?_update_other _ _ (Ne.symm hb)]
  exact e'
theorem unpack_hot {t x1 : Addr} {ys : Array Value} {Q : List Value → Shared → Prop} (hot : HotAt A x1 s.heap) (ht : IsTup s.heap t ys) (hQ : ∀ h', Heap.ExtBut s.heap.objs.size s.heap h' → Q ys.toList { s with heap := h' }) :
    wpAny (model prog w) A (unpackItems (.ref t) ys.size none) Q E s := by
  have hlt : t ≠ s.heap.objs.size := by
    obtain ⟨o, ho, _⟩ := ht
    exact Nat.ne_of_lt (Heap.lt_size ho)
  have hx1 : x1 ≠ s.heap.objs.size := by
    obtain ⟨_, o, _, ho, _⟩ := hot
    exact Nat.ne_of_lt (Heap.lt_size ho)
  unfold unpackItems
  refine wpAny_bind ?_
  unfold notIterableAtAll
  refine wpAny_bind (wpAny_specialOf ht.typeIs slot_tuple_iter.lookup (wpAny_pure ?_))
  simp only [Bool.false_eq_true, if_false]
  refine wpAny_bind (wpAny_holding (iter_tuple ht ?_))
  refine wpAny_bind (wpAny_holding (draw_tuple hlt ys.size 0 _ _ ⟨_, Heap.get?_push_size _ rfl, rfl, rfl⟩ (ht.push _) (by omega) fun h1 hit1 hs1 => ?_))
  have hall : List.take ys.size (List.drop 0 ys.toList) = ys.toList := by
    rw [List.drop_zero]; exact List.take_of_length_le (by simp)
  rw [hall, if_neg (by simp)]
  have up : ∀ b o, b ≠ s.heap.objs.size → s.heap.get? b = some o → h1.get? b = some o := fun b o hb e => hs1.extBut b o hb (Heap.get?_push_of_some _ e)
  refine wpAny_bind (wpAny_holding (tupEnd_hot (hot.to fun o e => up _ o hx1 e) hit1 ((ht.push _).extBut hs1.extBut hlt) (by simp) fun h2 he2 => ?_))
  simp only [Option.isSome_none, Bool.false_eq_true, if_false]
  exact wpAny_pure (hQ h2 fun b o hb e => he2 b o hb (up b o hb e))
theorem assign_hot {env : Env} {elts : List Expr} {kk : Nat} {pos : Pos} {t x1 : Addr} {ys : Array Value} {Q : Unit → Shared → Prop} (hot : HotAt A x1 s.heap) (ht : IsTup s.heap t ys) (hn : (assignEach elts env).length = ys.size) (hstar : (assignEach elts env).findIdx? (·.1) = none)
    (h : ∀ h', Heap.ExtBut s.heap.objs.size s.heap h' → wpAny (model prog w) A (assignInOrder ((assignEach elts env).map (·.2)) ys.toList) Q E { s with heap := h' }) : wpAny (model prog w) A (assign (.Tuple elts kk pos) env (.ref t)) Q E s := by
  rw [assign_Tuple]
  refine wpAny_bind (wpAny_standAt ?_)
  unfold unpack
  rw [hn, hstar]
  exact wpAny_bind (wpAny_holding (unpack_hot hot ht h))
/-- zip, its first list at its end -/
theorem zipEnd_hot {z TI TO i1 i2 l1 l2 x1 : Addr} {k1 k2 : Nat} {xs ys : Array Value} {a b : Value} {Q : Option Value → Shared → Prop} (hot : HotAt A x1 s.heap) (D : ZipApart z TI TO i1 i2 l1 l2)
    (hz : IsZip s.heap z TI TO .none) (hTI : IsPair s.heap TI (.ref i1) (.ref i2)) (hTO : IsPair s.heap TO a b) (h1 : s.heap.IsListIter i1 l1 k1) (hl1 : s.heap.IsList l1 xs) (hend : xs[k1]? = none)
    (hQ : ∀ h', (∀ c o, c ≠ z → c ≠ TO → c ≠ i1 → c ≠ i2 → s.heap.get? c = some o → h'.get? c = some o) → Q none { s with heap := h' }) : wpAny (model prog w) A (pyNext (.ref z)) Q E s := by
  have hT : s.TypeIs (.ref z) "zip" := ⟨_, hz, rfl⟩
  have hnz : x1 ≠ z := hot.ne hz rfl (by simp)
  unfold pyNext
  refine wpAny_bind (wpAny_attempt (wpAny_callSpecial?_slot (name := Str.ofString "__next__") hT F.slot_zip_next (wpAny_call_entry F.slot_zip_next hT F.entry_zip_next ?_ (F.args_zip_next_1 _))))
  show wpAny _ _ (field (.ref z) 2 >>= _) _ _ _
  refine wpAny_bind (wpAny_field hz rfl (x := .bool false) rfl ?_)
  show wpAny _ _ (field (.ref z) 3 >>= _) _ _ _
  refine wpAny_bind (wpAny_field hz rfl (x := .ref TI) rfl (wpAny_bind (wpAny_seqItems hTI rfl ?_)))
  show wpAny _ _ (Builtin.SmallTypes.ownedTupleIsFree (.ref z) >>= _) _ _ _
  refine wpAny_bind ?_
  unfold Builtin.SmallTypes.ownedTupleIsFree
  refine wpAny_bind (wpAny_field hz rfl (x := .none) rfl (wpAny_pure ?_))
  simp only [if_true]
  refine wpAny_bind (wpAny_rule (wpAny_bind (wpAny_field hz rfl (x := .ref TO) rfl (wpAny_bind (wpAny_setField_rec hz (by simp) fun h2 hz2 hs2 => ?_)))))
  replace hz2 : IsZip h2 z TI TO .ellipsis := hz2
  refine wpAny_bind ?_
  simp only [List.zipIdx_cons, List.zipIdx_nil, List.forIn_cons, List.forIn_nil]
  refine wpAny_bind (wpAny_bind (wpAny_onRaise ?_))
  show wpAny _ _ (Builtin.SmallTypes.nextOf (.ref i1) >>= _) _ _ _
  refine wpAny_bind (listEnd_hot (x1 := x1) (hot.in1.to fun o e => hs2.extBut _ _ hnz e) (h1.extBut hs2.extBut D.i1z) (hl1.extBut hs2.extBut D.l1z) hend fun h3 e hs3 he => ?_)
  obtain ⟨oe, hoe, hce⟩ := he
  have hz3 : IsZip h3 z TI TO .ellipsis := hs3 _ _ D.i1z.symm hz2
  have hez : e ≠ z := fun q => by
    subst q
    rw [hz3] at hoe
    cases hoe
    simp at hce
  refine wpAny_setField_rec hz3 (by simp) fun h4 _ hs4 => ?_
  refine wpAny_bind (wpAny_isInstance (T := "StopIteration") (b := true) ⟨oe, hs4.extBut _ _ hez hoe, hce⟩ isSubtype_stop (wpAny_pure (hQ _ fun c o c1 _ c3 _ q => ?_)))
  exact hs4.extBut _ _ c1 (hs3 _ _ c3 (hs2.extBut _ _ c1 q))
end
end PD
set_option linter.all false
set_option maxRecDepth 100000
set_option maxHeartbeats 2000000
/-! While an exception is handled: [.. for a, b in zip(xs, ys) if ..]. -/
namespace PD
open PySem PySem.Spec PyProof.Rows L2 HotX L2H
/-- as L2.Turn, the end told of a state where an exception is handled -/
structure TurnP (P : Program) (w : World) (K : PySem.W.Frag) (tg : Expr) (J : It) (fp : List Addr) (it : Addr) (tn : Nat → Heap → Prop) : Prop where
  obj : ∀ i h, tn i h → ∀ b ∈ fp, ∃ o, h.get? b = some o ∧ ∀ v, o.data ≠ .cell v
  keep : ∀ i h h', tn i h → (∀ b ∈ fp, ∀ o, h.get? b = some o → h'.get? b = some o) → tn i h'
  item : ∀ (X : Cx), X.prog = P → X.w = w → X.K = K → ∀ (i : Nat) (pins : List (Addr × Obj)) (s : Shared) (σ : L2.St) (H : Hp) (E : Value → Shared → Prop), Inv X pins σ H s → (∀ b ∈ fp, FpOk X pins H b) → tn i s.heap → J.go i H →
    wpAny (model P w) X.A (pyNext (.ref it)) (fun r s1 => ∃ u, r = some u ∧ wpAny (model P w) X.A (letOwnedTupleGo tg (.ref it) u) (fun _ s2 => ∃ x H', Inv X pins σ H' s2 ∧ RelV x u ∧ J.yld i H x H' ∧ tn (i + 1) s2.heap ∧ ∀ b ∈ fp, H' b = none) E s1) E s
  done : ∀ (X : Cx), X.prog = P → X.w = w → X.K = K → ∀ (i : Nat) (pins : List (Addr × Obj)) (s : Shared) (σ : L2.St) (H : Hp) (E : Value → Shared → Prop) (x1 : Addr), HotAt X.A x1 s.heap → Inv X pins σ H s → (∀ b ∈ fp, FpOk X pins H b) → tn i s.heap → J.stop i H →
    wpAny (model P w) X.A (pyNext (.ref it)) (fun r s1 => r = none ∧ Inv X pins σ H s1) E s
  self : ∀ (A : Around) (i : Nat) (s : Shared) (Q : Value → Shared → Prop) (E : Value → Shared → Prop), tn i s.heap → Q (.ref it) s → wpAny (model P w) A (pyIter (.ref it)) Q E s
/-- zip of two lists, the first ending first -/
def ItzP (K : PySem.W.Frag) (a b : Addr) : It :=
  ⟨(Itz K a b).go, (Itz K a b).yld, fun i H => ∃ xs ys : List V, SqL K H a xs ∧ SqL K H b ys ∧ xs.length ≤ i⟩
theorem five {z TI TO i1 i2 c : Addr} (h : c ∈ [z, TI, TO, i1, i2]) : c = z ∨ c = TI ∨ c = TO ∨ c = i1 ∨ c = i2 := by simpa using h
theorem turn_zipP {P : Program} {w : World} {K : PySem.W.Frag} {elts : List Expr} {kk : Nat} {tpos : Pos} {a b z TI TO i1 i2 : Addr} (D : ZipApart z TI TO i1 i2 a b) :
    TurnP P w K (.Tuple elts kk tpos) (ItzP K a b) [z, TI, TO, i1, i2] z (fun i h => IsZip h z TI TO .none ∧ IsPair h TI (.ref i1) (.ref i2) ∧ (∃ x y, IsPair h TO x y) ∧ h.IsListIter i1 a i ∧ h.IsListIter i2 b i) := by
  refine ⟨fun i h st c hc => (turn_zip (P := P) (w := w) (K := K) (elts := elts) (kk := kk) (tpos := tpos) D).obj i h st c hc, fun i h h' st k => (turn_zip (P := P) (w := w) (K := K) (elts := elts) (kk := kk) (tpos := tpos) D).keep i h h' st k, ?_, ?_, fun A i s Q E st h => wpAny_pyIter_zip st.1 h⟩
  · intro X hP hw hK i pins s σ H E I hf st hg
    subst hP hw hK
    obtain ⟨hz, hTI, ⟨x0, y0, hTO⟩, h1, h2⟩ := st
    obtain ⟨xs, ys, x, y, hqx, hqy, hx, hy⟩ := hg
    obtain ⟨its, rv, pl, _⟩ := I.list hqx
    obtain ⟨its2, rv2, pl2, _⟩ := I.list hqy
    obtain ⟨u, hu, ru⟩ := rv.get hx
    obtain ⟨u2, hu2, ru2⟩ := rv2.get hy
    have zl : z < s.heap.objs.size := Heap.lt_size hz
    refine wpAny_pyNext_zip_item D hz hTI hTO h1 h2 pl.isList pl2.isList (x := u) (y := u2) (by simpa using hu) (by simpa using hu2) fun q z' TO' h1' h2' hT hsz hk => ⟨_, rfl, wpAny_letOwnedTupleGo_zip (s := { s with heap := q }) z' fun q2 z2 sb => ?_⟩
    have away : ∀ c o, c ∉ [z, TI, TO, i1, i2] → s.heap.get? c = some o → q2.get? c = some o := fun c o hc e => by
      have n : ∀ d ∈ [z, TI, TO, i1, i2], c ≠ d := fun d hd q => hc (by rw [q]; exact hd)
      exact (sb.2 c (n z (by simp))).trans (hk c o (n z (by simp)) (n TO (by simp)) (n i1 (by simp)) (n i2 (by simp)) e)
    have hT2 : q2.get? s.heap.objs.size = some { cls := .type "tuple", data := .seq #[u, u2] } := (sb.2 _ (Nat.ne_of_gt zl)).trans hT
    have new : ObjOk X.prog X.w (upd H s.heap.objs.size (.tup [x, y])) q2 s.heap.objs.size (.tup [x, y]) := ⟨show 2 ≤ sizeLine by decide, [u, u2], .cons ru (.cons ru2 .nil), ⟨_, hT2, rfl, _, rfl⟩⟩
    refine ⟨.ref s.heap.objs.size, _, I.turnedNew (t' := s.toks) (ch := [z, TI, TO, i1, i2]) away hf (Nat.le_refl _) new, rfl, ⟨_, x, y, rfl, I.hok.fresh (Nat.le_refl _), rfl, fun l hl => by rw [I.list_inj hl hqx]; exact hx, fun l hl => by rw [I.list_inj hl hqy]; exact hy⟩, ⟨z2, ?_, ⟨u, u2, ?_⟩, ?_, ?_⟩, fun c hc => ?_⟩
    · exact (sb.2 _ D.TIz).trans (hk _ _ D.TIz D.TITO D.TIi1 D.TIi2 hTI)
    · exact (sb.2 _ D.TOz).trans TO'
    · exact h1'.at fun o e => (sb.2 _ D.i1z).trans e
    · exact h2'.at fun o e => (sb.2 _ D.i2z).trans e
    · have lt : c < s.heap.objs.size := by
        rcases five hc with e | e | e | e | e <;> rw [e]
        · exact zl
        · exact Heap.lt_size hTI
        · exact Heap.lt_size hTO
        · obtain ⟨_, e1, _⟩ := h1; exact Heap.lt_size e1
        · obtain ⟨_, e2, _⟩ := h2; exact Heap.lt_size e2
      rw [upd_ne (Nat.ne_of_lt lt)]
      exact (hf c hc).1
  · intro X hP hw hK i pins s σ H E x1 hot I hf st hg
    subst hP hw hK
    obtain ⟨hz, hTI, ⟨x0, y0, hTO⟩, h1, h2⟩ := st
    obtain ⟨xs, ys, hqx, hqy, hend⟩ := hg
    obtain ⟨its, rv, pl, _⟩ := I.list hqx
    have l1 := rv.length
    refine zipEnd_hot (k2 := 0) (ys := #[]) hot D hz hTI hTO h1 pl.isList (by simp; omega) fun q hk => ⟨rfl, I.turnedL (t' := s.toks) (ch := [z, TI, TO, i1, i2]) (fun c o hc e => ?_) hf⟩
    have n : ∀ d ∈ [z, TI, TO, i1, i2], c ≠ d := fun d hd q => hc (by rw [q]; exact hd)
    exact hk c o (n z (by simp)) (n TO (by simp)) (n i1 (by simp)) (n i2 (by simp)) e
/-- an iterator has come -/
def PIEP (X : Cx) (pins : List (Addr × Obj)) (σ : L2.St) (tg : Expr) (R : It → Hp → Prop) (itv : Value) (s2 : Shared) : Prop :=
  ∃ (it : Addr) (fp : List Addr) (tn : Nat → Heap → Prop) (J : It) (H' : Hp), itv = .ref it ∧ Inv X pins σ H' s2 ∧ TurnP X.prog X.w X.K tg J fp it tn ∧ tn 0 s2.heap ∧ (∀ b ∈ fp, FpOk X pins H' b) ∧ R J H'
structure PIP (X : Cx) (tg iter : Expr) (wi : TI) : Prop where
  run : ∀ (pins : List (Addr × Obj)) (s : Shared) (σ : L2.St) (H : Hp) (R : It → Hp → Prop), Inv X pins σ H s → wi σ H R →
    wpAny (model X.prog X.w) X.A (eval iter X.env) (fun v s1 => wpAny (model X.prog X.w) X.A (pyIter v) (PIEP X pins σ tg R) X.xe s1) X.xe s
def iZipP (K : PySem.W.Frag) (ta : TA) : TI := fun σ H R => ta σ H fun vs H1 => ∃ a b xs ys, vs = [.ref a, .ref b] ∧ SqL K H1 a xs ∧ SqL K H1 b ys ∧ R (ItzP K a b) H1
theorem pi_zipP {X : Cx} {e e2 : Expr} {ta : TA} {p pos tpos : Pos} {elts : List Expr} {kk : Nat} (hg : Gl X "zip") (hm : X.mg "zip" = none) (ha : PA X [e, e2] ta)
    (hs : starEach [e, e2] X.env = (false, eval e X.env) :: starEach [e2] X.env) (hpl : (backTo pos (starEach [e2] X.env)).any (·.1) = false) : PIP X (.Tuple elts kk tpos) (.Call (.Name "zip" p) [e, e2] [] pos) (iZipP X.K ta) := by
  refine ⟨fun pins s σ H R I h => Call_ (ld_blt I hg hm PyProof.Rows.boot_zip (PyProof.Rows.callWith_type1 (thn (ha.run pos pins s σ H _ I h) fun us s1 ⟨vs, H1, I1, r1, q1⟩ => ?_) hs hpl))⟩
  obtain ⟨a, b, xs, ys, ex, hqx, hqy, q⟩ := q1
  subst ex
  obtain ⟨u, v, rfl, ru, rv⟩ := r1.two
  cases ru
  cases rv
  obtain ⟨its, rv, p1, _⟩ := I1.list hqx
  obtain ⟨its2, rv2, p2, _⟩ := I1.list hqy
  refine call_zip_2 p1.isList p2.isList fun h' hz hTI hTO h1 h2 hsz hk => wpAny_pyIter_zip hz ?_
  refine ⟨s1.heap.objs.size + 4, [s1.heap.objs.size + 4, s1.heap.objs.size + 2, s1.heap.objs.size + 3, s1.heap.objs.size, s1.heap.objs.size + 1], _, _, H1, rfl, I1.kept (t' := s1.toks) hk, turn_zipP (PySem.W.ktu_apart s1.heap.objs.size a b p1.lt p2.lt), ⟨hz, hTI, ⟨_, _, hTO⟩, h1, h2⟩, fun c hc => ?_, q⟩
  have hle : s1.heap.objs.size ≤ c := by
    rcases five hc with e | e | e | e | e <;> rw [e] <;> first | exact Nat.le_refl _ | exact Nat.le_add_right _ _
  exact I1.fpOk hle (I1.hok.fresh hle)
/-- a, b = a pair -/
theorem pg_hot {X : Cx} {es : List Expr} {k : Nat} {t : TGs} {n : Nat} {pos : Pos} (h : PGs X es t) (hn : (assignEach es X.env).length = n) (hst : (assignEach es X.env).findIdx? (·.1) = none) {pins : List (Addr × Obj)} {s : Shared} {σ : L2.St} {H : Hp} {v : V} {u : Value} {Q : L2.St → Hp → Prop} {x1 : Addr} (hot : HotAt X.A x1 s.heap)
    (I : Inv X pins σ H s) (r : RelV v u) (hw : gTup X.K n t v σ H Q) : wpAny (model X.prog X.w) X.A (assign (.Tuple es k pos) X.env u) (fun _ s' => ∃ σ' H', Inv X pins σ' H' s' ∧ Q σ' H') X.xe s := by
  obtain ⟨a, xs, e1, hq, hl, hw⟩ := hw
  subst e1
  cases r
  obtain ⟨its, rv, ht, hz⟩ := I.tuple hq
  refine assign_hot hot ht (by simp [hn, ← hl, rv.length]) hst fun h' hx => h.run pins _ σ H xs _ Q (I.kept (t' := s.toks) fun b o e => hx b o (Nat.ne_of_lt (Heap.lt_size e)) e) (by simpa using rv) hw
section
variable {X : Cx}
theorem pe_lcP {elt iter : Expr} {es : List Expr} {k n : Nat} {tpos : Pos} {ifs : List Expr} {scope : Scope} {own : List (Str × Nat)} {pos : Pos} {wi : TI} {tgs : TGs} {tt : TT} {te : TE} {p : Addr × Obj} (hot : Hot1 X.A p) (hpn : p ∈ X.pn) (hN : X.N.Nodup) (hi : PIP X (.Tuple es k tpos) iter wi) (ok : BlkOk X.N X.env.scope scope own)
    (hg : ∀ (s : Shared) (H : Hp) (C : Addr) (cl : List (Str × Addr)) (fp : List Addr), PGs (X.blk s H scope (compEnvC scope cl C X.env) fp) es tgs) (hn : ∀ env, (assignEach es env).length = n) (hst : ∀ env, (assignEach es env).findIdx? (·.1) = none)
    (ht : ∀ (s : Shared) (H : Hp) (C : Addr) (cl : List (Str × Addr)) (fp : List Addr), PTs (X.blk s H scope (compEnvC scope cl C X.env) fp) ifs tt)
    (he : ∀ (s : Shared) (H : Hp) (C : Addr) (cl : List (Str × Addr)) (fp : List Addr), PE (X.blk s H scope (compEnvC scope cl C X.env) fp) elt te) (hs : ∀ x, foldedSetIterable iter X.env x = pure x) :
    PE X (.ListComp elt [⟨.Tuple es k tpos, iter, ifs, 0⟩] scope pos) (tLc wi (gTup X.K n tgs) tt te (own.map (·.2))) := by
  refine ⟨fun pins s σ H Q I h => ?_⟩
  rw [eval_ListComp]
  have hfree : ∀ y ∈ scope.names, y.2 = .free → ∃ c, X.env.cells.lookup y.1 = some c := fun y hy e => (ok.free y hy e).elim (fun q => I.ok.has _ (.inl q)) fun q => I.ok.has _ (.inr q)
  refine wpAny_comprehension_free rfl hs (closure_ok hfree) ok.kind (fun y hy e => by rw [ok.uniq y hy, e]) (thn (hi.run pins s σ H _ I h) fun xv s1 hx => thn hx fun itv s2 h2 => ?_)
  obtain ⟨it, fp, tn, J, H2, e, I2, T, st2, f2, q⟩ := h2
  subst e
  refine wpAny_newObj_type (newEnv_comp ?_) (show 0 ≤ sizeLine by decide)
  generalize hD : s2.heap.objs.size = D
  obtain ⟨W, ⟨m0, w0⟩, turn⟩ := q D (I2.hok.fresh (Nat.le_of_eq hD))
  generalize hs3 : ({ s2 with heap := s2.heap.push { cls := .type "list", data := .seq ([] : List Value).toArray } } : Shared) = s3
  have h3 : s3.heap = s2.heap.push { cls := .type "list", data := .seq ([] : List Value).toArray } := by rw [← hs3]
  have I3 : Inv X pins σ (upd H2 D (.lst [])) s3 := by
    rw [← hs3]
    refine I2.laid (t' := s2.toks) (fun b o e => Heap.get?_push_of_some _ e) (Nat.le_of_eq hD) ⟨Nat.zero_le _, [], 0, .nil, ?_⟩
    rw [← hD]
    exact Heap.get?_push_size _ rfl
  have sz : ∀ b ∈ fp, b < s2.heap.objs.size := fun b hb => by
    obtain ⟨o, e, _⟩ := T.obj _ _ st2 b hb
    exact Heap.lt_size e
  have f3 : ∀ b ∈ fp, FpOk X pins (upd H2 D (.lst [])) b ∧ b < s3.heap.objs.size := fun b hb => by
    refine ⟨⟨?_, (f2 b hb).2⟩, by rw [h3, Heap.size_push]; exact Nat.lt_succ_of_lt (sz b hb)⟩
    rw [upd_ne (by rw [← hD]; exact Nat.ne_of_lt (sz b hb))]
    exact (f2 b hb).1
  have st3 : tn 0 s3.heap := T.keep _ _ _ st2 fun b _ o e => by rw [h3]; exact Heap.get?_push_of_some _ e
  have I4 := block_start I3 ok hN f3
  have pg := hg s3 (upd H2 D (.lst [])) s3.heap.objs.size (cellsFrom (s3.heap.objs.size + 1) scope.names (cloFrom X.env.cells scope.names [])) fp
  have pt := ht s3 (upd H2 D (.lst [])) s3.heap.objs.size (cellsFrom (s3.heap.objs.size + 1) scope.names (cloFrom X.env.cells scope.names [])) fp
  have pe := he s3 (upd H2 D (.lst [])) s3.heap.objs.size (cellsFrom (s3.heap.objs.size + 1) scope.names (cloFrom X.env.cells scope.names [])) fp
  show codeAny _ _ (.compStart (.ListComp elt [⟨.Tuple es k tpos, iter, ifs, 0⟩] scope pos) 0 (.ref it) (.ref D) (compEnvC scope (cellsFrom (s3.heap.objs.size + 1) scope.names (cloFrom X.env.cells scope.names [])) s3.heap.objs.size X.env)) (compPost (model X.prog X.w) X.A X.xe none _ (.ref D) s3.heap.objs.size) { s3 with heap := pushCells (s3.heap.push { cls := .type "dict", data := .dict #[] }) scope.names }
  have nfp : ∀ b ∈ fp, (upd H2 D (.lst [])) b = none := fun b hb => (f3 b hb).1.1
  generalize hce : compEnvC scope (cellsFrom (s3.heap.objs.size + 1) scope.names (cloFrom X.env.cells scope.names [])) s3.heap.objs.size X.env = ce at I4 pg pt pe ⊢
  have cL : ce.locals = s3.heap.objs.size := by subst hce; rfl
  generalize hH3 : upd H2 D (.lst []) = H3 at I3 I4 pg pt pe w0 nfp f3
  generalize hs4 : ({ s3 with heap := pushCells (s3.heap.push { cls := .type "dict", data := .dict #[] }) scope.names } : Shared) = s4 at I4 ⊢
  have up4 : ∀ b o, s3.heap.get? b = some o → s4.heap.get? b = some o := fun b o e => by rw [← hs4]; exact pushCells_keeps _ _ _ _ (Heap.get?_push_of_some _ e)
  have st4 : tn 0 s4.heap := T.keep _ _ _ st3 fun b _ o e => up4 b o e
  -- the handled exception is pinned in the block
  have P3 := I3.pin p (List.mem_append_left _ hpn)
  have I4 : Inv (X.blk s3 H3 scope ce fp) [p] (wipe σ (own.map (·.2))) H3 s4 := I4.pins_of fun q hq => by
    rw [List.mem_singleton.mp hq]
    refine ⟨up4 _ _ P3.1, P3.2.1, ?_, fun hm => (List.mem_cons.mp (I3.stkSub p.1 hm)).elim P3.2.2.1 P3.2.2.2.1, P3.2.2.2.2⟩
    show p.1 ≠ ce.locals
    rw [cL]
    exact Nat.ne_of_lt (Heap.lt_size P3.1)
  have pfp : ∀ b ∈ fp, p.1 ≠ b := fun b hb => (f3 b hb).1.2.2.2.2.2 p (List.mem_append_left _ hpn)
  have stat : ∀ {σ' : L2.St} {H' : Hp} {s' : Shared}, Inv (X.blk s3 H3 scope ce fp) [p] σ' H' s' → (∀ b ∈ fp, H' b = none) → ∀ b ∈ fp, FpOk (X.blk s3 H3 scope ce fp) [p] H' b := fun {σ' H' s'} I' hn b hb =>
    ⟨hn b hb, (I'.ok.exf b hb).1, I'.ok.exfs b hb, .inl hb, fun x c e => (I'.ok.exf b hb).2 x c e, fun q hq => by
      have e : q = p := by simpa using (show q ∈ ([] : List (Addr × Obj)) ++ [p] from hq)
      rw [e]
      exact pfp b hb⟩
  have hotAt : ∀ {σ' : L2.St} {H' : Hp} {s' : Shared} {pl : List (Addr × Obj)}, Inv (X.blk s3 H3 scope ce fp) pl σ' H' s' → p ∈ pl → HotAt X.A p.1 s'.heap := fun {σ' H' s' pl} I' hp => by
    obtain ⟨hh, vs, e1, c1⟩ := hot
    exact ⟨hh, p.2, vs, (I'.pin p (List.mem_append_right _ hp)).1, e1, c1⟩
  have loop : codeAny (model X.prog X.w) X.A (.compLoop (.ListComp elt [⟨.Tuple es k tpos, iter, ifs, 0⟩] scope pos) 0 (.ref it) (.ref D) ce) (compPost (model X.prog X.w) X.A X.xe none (EP X pins σ Q) (.ref D) s3.heap.objs.size) s4 := by
    refine compLoop_any (fun n s' => ∃ i H', Inv (X.blk s3 H3 scope ce fp) [p] (wipe σ (own.map (·.2))) H' s' ∧ tn i s'.heap ∧ (∀ b ∈ fp, H' b = none) ∧ W i n H') ?_ m0 ⟨0, H3, I4, st4, nfp, w0⟩
    rintro n s5 ⟨i, H5, I5, st5, n5, w5⟩
    rcases turn i n H5 w5 with ⟨stop, qq⟩ | ⟨go, Nx, hNx, step⟩
    · refine thnF (T.done (X.blk s3 H3 scope ce fp) rfl rfl rfl i [p] s5 _ H5 (fun _ _ => False) p.1 (hotAt I5 (by simp)) I5 (stat I5 n5) st5 stop) fun r s6 ⟨hr, I6⟩ => ?_
      subst hr
      have I7 : Inv X pins σ H5 s6 := I3.call' (ch := fp) I6.os I6.base I6.hok I6.bare fun b hb => ⟨(f3 b hb).1.2.2.2.1, (f3 b hb).1.2.1, (f3 b hb).1.2.2.2.2.1, (f3 b hb).1.2.2.2.2.2⟩
      have nC : H5 s3.heap.objs.size = none := by
        have z : H5 ce.locals = none := I6.free
        rw [cL] at z
        exact z
      obtain ⟨m, hn, _⟩ := I6.loc
      have hn : s6.heap.Ns ce.locals m := hn
      rw [cL] at hn
      obtain ⟨f0, f1, _, f3', f4, f5⟩ := I3.fpOk (Nat.le_refl _) nC
      exact ⟨m, hn, fun h'' sb => ⟨.ref D, H5, I7.turned (t' := s6.toks) (fun b o hb e => (sb.2 b hb).trans e) f0 f1 f3' f4 f5, rfl, qq⟩⟩
    · refine thnF (T.item (X.blk s3 H3 scope ce fp) rfl rfl rfl i [p] s5 _ H5 (fun _ _ => False) I5 (stat I5 n5) st5 go) fun r s6 ⟨u, hr, h6⟩ => ?_
      subst hr
      refine thnF h6 fun _ s7 ⟨x, H7, I7, r7, y7, st7, n7⟩ => ?_
      have I7' := I7.pinned (stat I7 n7) (T.obj _ _ st7)
      refine thnF (pg_hot pg (hn _) (hst _) (hotAt I7' (by simp)) I7' r7 (step x H7 y7)) fun _ s8 ⟨σ8, H8, I8, hw8, q8⟩ => ?_
      refine thnF (pt.run _ s8 σ8 H8 _ I8 q8) fun b s9 ⟨H9, I9, q9⟩ => ?_
      have fin : ∀ {s' : Shared} {H' : Hp}, Inv (X.blk s3 H3 scope ce fp) ([p] ++ pinsAt fp s7.heap) σ8 H' s' → Nx H' → ∃ m, m < n ∧ ∃ i H', Inv (X.blk s3 H3 scope ce fp) [p] (wipe σ (own.map (·.2))) H' s' ∧ tn i s'.heap ∧ (∀ b ∈ fp, H' b = none) ∧ W i m H' := fun {s' H'} I' nx => by
        obtain ⟨m', hm, w'⟩ := hNx H' nx
        have pin' : ∀ b ∈ fp, ∀ o, s7.heap.get? b = some o → s'.heap.get? b = some o ∧ H' b = none := fun b hb o e =>
          let z := I'.pin (b, o) (List.mem_append_right _ (List.mem_append_right _ (mem_pinsAt hb e)))
          ⟨z.1, z.2.1⟩
        refine ⟨m', hm, i + 1, H', (I'.unpinned (pins := [p])).weak (by rw [← hw8, wipe_length]) (fun j v e => ?_), T.keep _ _ _ st7 fun b hb o e => (pin' b hb o e).1, fun b hb => ?_, w'⟩
        · rw [← hw8] at e
          exact (wipe_some e).1
        · obtain ⟨o, e, _⟩ := T.obj _ _ st7 b hb
          exact (pin' b hb o e).2
      cases b with
      | false =>
        simp only [Bool.false_eq_true, if_false] at q9 ⊢
        exact fin I9 q9
      | true =>
        simp only [if_true] at q9 ⊢
        refine thnF (pe.run _ s9 σ8 H9 _ I9 q9) fun z s10 ⟨yv, H10, I10, r10, acc, hD10, hz10, nx⟩ => ?_
        exact app_ok (X := X.blk s3 H3 scope ce fp) I10 hD10 hz10 r10 fun s11 I11 => fin I11 nx
  exact codeAny_compStart_list loop (T.self X.A 0 _ _ _ st4 loop)
end
end PD
set_option linter.all false
set_option maxRecDepth 100000
set_option maxHeartbeats 2000000
/-! The name of a caught error: what the law's def of it does. -/
namespace PD
open PySem PySem.Spec PyProof.Rows L2 HotX L2H
theorem call_isP {X : Cx} {a D : Addr} {oe : Obj} (C : ExcC X.K D) (hp : (a, oe) ∈ X.pn) (hz : Zc (.ref D) none oe) (hf : ∃ vs, oe.data = .fields vs) : CallR X (.builtin "isinstance") (rIsE X.K D a) := by
  intro pins s σ H xs us Q I r ⟨c, cv, b, e1, hcv, e, q⟩
  subst e1
  obtain ⟨u, v, rfl, ru, rv⟩ := r.two
  cases ru
  have ec := hcv _ rv
  subst ec
  obtain ⟨hget, _⟩ := I.pin (a, oe) (List.mem_append_left _ hp)
  obtain ⟨vs, hv⟩ := hf
  have J : PySem.W.InstAt s.heap a oe D none := by
    obtain ⟨oc, od, oda, osl⟩ := oe
    obtain ⟨h1, h2⟩ := hz
    dsimp only at h1 h2 hv
    subst h1 h2 hv
    exact ⟨hget, rfl, rfl, trivial⟩
  exact PySem.W.kia_one (PySem.W.handS_kitx_exc C.hg C.hk C.hs C.hd C.ha C.hn C.ht C.hm) I.kIn J e (fun z => nomatch z) fun tk => ⟨.bl b, H, I.kept (t' := tk) fun _ _ z => z, rfl, q⟩
section
variable {X : Cx} {CX : CXT} {k : Nat} {f : Addr} {name qual : Str} {params : Arguments} {body : List Stmt} {scope : Scope} {dV kV doc pm cdv ct oc : Value} {an od : Option Addr} {osl : Array (Option Value)} {N ps : List Str}
/-- a def called while p is handled, its body told of p -/
theorem run_hotP {pins : List (Addr × Obj)} {σ : L2.St} {H : Hp} {s : Shared} {Q : VK} {E : XK} {us : List Value} {vs : List V} {p : Addr × Obj} (lk : X.K.lookup f = some ⟨oc, od, .func (PySem.W.fnOf name qual params body scope dV kV doc pm an cdv ct), osl⟩) (hcd : PySem.W.codeIn X.K cdv qual = true) (S : FnScope N ps scope)
    (hr : RoomH (k + 1) X.A) (hot : Hot1 X.A p) (hp : p ∈ X.pn) (hb : Binds X.K (PySem.W.fnOf name qual params body scope dV kV doc pm an cdv ct) ps []) (hx : ∀ e s', CX X.stack H s E e s' → X.xe e s') (I : Inv X pins σ H s) (r : Vals vs us) (hl : vs.length = ps.length)
    (hbody : RoomH k (X.A.deeper (envOfC qual scope s.heap.objs.size f cdv)) → ∃ t, PSs (cxH CX X.prog X.w X.K X.mg X.base N qual scope f cdv X.A X.stack s H E p) body t ∧ t { nx := fun _ H' => Q .non H', rt := Q } (L2.start N vs) H) :
    wpAny (model X.prog X.w) X.A (call (.ref f) us) (EP X pins σ Q) X.xe s := by
  have P1 := I.pin p (List.mem_append_left _ hp)
  have hpin : PinOk X.stack H s p := ⟨P1.1, P1.2.1, fun hm => (List.mem_cons.mp (I.stkSub p.1 hm)).elim P1.2.2.1 P1.2.2.2.1, P1.2.2.2.2⟩
  have e0 := I.env0
  have KX : X.K.In s.heap := e0.mod.kin.keeps fun b o e => (e0.bs b o e).1
  have lim : s.heap.NoLimit := e0.mod.nolimit.keeps fun b o e => (e0.bs b o e).1
  have hlu : us.length = ps.length := by rw [← r.length]; exact hl
  have bt := hb s us I.kIn (by rw [List.append_nil]; exact hlu)
  rw [List.append_nil] at bt
  have hkind : ∀ y ∈ ps.zip us, scope.names.lookup y.1 = some .local ∨ (scope.names.lookup y.1 = some .cell ∧ ((cellsFrom (s.heap.objs.size + 1) scope.names []).lookup y.1).isSome = true) := fun ⟨n, v⟩ hy => by
    rcases S.par n (List.of_mem_zip hy).1 with q | q
    · exact .inl q
    · exact .inr ⟨q, PySem.W.cellsFrom_some _ _ _ (.inl q)⟩
  have rc : codeAny (model X.prog X.w) X.A (.call (.ref f) ⟨us, []⟩) (CR CX X.stack X.prog X.w H s Q E) s := by
    refine codeAny_call_function hr.depth (KX _ _ lk) rfl S.co S.gen rfl (PySem.W.codeRec_of KX hcd) (bt _ _ _ _ (wpAny_newFunctionEnv_cells S.kind hkind fun env he s1 x => ?_))
    subst he
    refine ⟨lim.keeps x.toInCall.keep, codeAny_func ?_⟩
    obtain ⟨t, ht, hq⟩ := hbody (hr.deeper _)
    refine wpAny_mono (ht.run [] s1 (L2.start N vs) H _ (inv_startH S hpin e0 hl r x) hq) (fun fl s' hs => ?_) fun e s' hs => hs
    cases fl with
    | ret u =>
      obtain ⟨v, σ', H', J, rv, q⟩ := hs
      exact ⟨v, H', J.os, J.bare, J.base, J.hok, rv, q⟩
    | next =>
      obtain ⟨σ', H', J, q⟩ := hs
      exact ⟨V.non, H', J.os, J.bare, J.base, J.hok, rfl, q⟩
    | brk =>
      obtain ⟨_, _, _, q⟩ := hs
      exact False.elim q
    | cont =>
      obtain ⟨_, _, _, q⟩ := hs
      exact False.elim q
  refine wpAny_call (codeAny_mono rc fun res s' hq => ?_)
  cases res with
  | error e => exact hx e s' hq
  | ok fl =>
    cases fl with
    | ret u => exact I.after hq
    | next => exact False.elim hq
    | brk => exact False.elim hq
    | cont => exact False.elim hq
end
/-! ### the body -/
section
variable {X : Cx} {pos p1 p2 p3 : Pos}
/-- isinstance(e, c) -/
def tIs (a : Addr) (b : Bool) : TE := fun σ H Q => σ[0]? = some (some (.ref a)) ∧ Q (.bl b) H
theorem boot_isi' : bootBuiltins "isinstance" = some (.builtin "isinstance") := by decide +kernel
theorem is_own {a D : Addr} {oe : Obj} {c : Str} {Cc : Addr} {b : Bool} (C : ExcC X.K D) (hp : (a, oe) ∈ X.pn) (hz : Zc (.ref D) none oe) (hf : ∃ vs, oe.data = .fields vs) (h0 : X.N[0]? = some ("e" : Str)) (hv : Vis X.env.scope "e") (hg : Gl X "isinstance") (hm : X.mg "isinstance" = none)
    (hgc : Gl X c) (hmc : X.mg c = some (.ref Cc)) (hk : PySem.W.kitOne X.K (.ref D) (.ref Cc) = some b) (hd : (c == ("__debug__" : Str)) = false) : PE X (.Call (.Name "isinstance" p1) [.Name "e" p2, .Name c p3] [] pos) (tIs a b) :=
  (pe_callB (call_isP C hp hz hf) hg hm boot_isi' (pa_cons (pe_var h0 hv) (pa_cons (pe_glob (v := .ref Cc) hgc hmc rfl hd) pa_nil))).imp fun σ H Q ⟨h, q⟩ => ⟨_, h, .ref Cc, .ref Cc, b, rfl, fun u r => r, hk, q⟩
theorem is_ve {a D : Addr} {oe : Obj} {b : Bool} (C : ExcC X.K D) (hp : (a, oe) ∈ X.pn) (hz : Zc (.ref D) none oe) (hf : ∃ vs, oe.data = .fields vs) (h0 : X.N[0]? = some ("e" : Str)) (hv : Vis X.env.scope "e") (hg : Gl X "isinstance") (hm : X.mg "isinstance" = none)
    (hgc : Gl X "ValueError") (hmc : X.mg "ValueError" = none) (hk : PySem.W.kitOne X.K (.ref D) (.type "ValueError") = some b) : PE X (.Call (.Name "isinstance" p1) [.Name "e" p2, .Name "ValueError" p3] [] pos) (tIs a b) :=
  (pe_callB (call_isP C hp hz hf) hg hm boot_isi' (pa_cons (pe_var h0 hv) (pa_cons (pe_bltn (v := .ty "ValueError") hgc hmc boot_ValueError rfl) pa_nil))).imp fun σ H Q ⟨h, q⟩ => ⟨_, h, .ty "ValueError", .type "ValueError", b, rfl, fun u r => r, hk, q⟩
end
def ownCls : List Str := ["InvalidLand", "InvalidScript", "InvalidAmount", "InvalidNumber", "InvalidFacts", "InvalidText", "TooLate", "NothingToUndo"]
/-- the class of an error, as isinstance sees it: of the eight own classes, of ValueError -/
structure Named (X : Cx) (D : Addr) (bs : List Bool) : Prop where
  C : ExcC X.K D
  own : ∀ (i : Nat) (c : Str), ownCls[i]? = some c → ∃ Cc b, X.mg c = some (.ref Cc) ∧ bs[i]? = some b ∧ PySem.W.kitOne X.K (.ref D) (.ref Cc) = some b
  ve : ∃ b, bs[8]? = some b ∧ PySem.W.kitOne X.K (.ref D) (.type "ValueError") = some b
  mv : X.mg "ValueError" = none
  mi : X.mg "isinstance" = none
  mz : X.mg "zip" = none
/-- the words whose mark is true -/
def pick : List Str → List Bool → List Str
  | x :: xs, true :: bs => x :: pick xs bs
  | _ :: xs, false :: bs => pick xs bs
  | _, _ => []
def nameWords : Str := "land script amount number facts text late undo value"
def nameOf (bs : List Bool) : Str := Txt.join " " (pick (Txt.split nameWords " ") bs)
theorem pick_step : ∀ {xs : List Str} {bs : List Bool} {i : Nat} {x : Str} {b : Bool}, xs[i]? = some x → bs[i]? = some b → pick (xs.take (i + 1)) (bs.take (i + 1)) = pick (xs.take i) (bs.take i) ++ (if b = true then [x] else [])
  | [], _, _, _, _, h, _ => by simp at h
  | _ :: _, [], _, _, _, _, h => by simp at h
  | x :: xs, b :: bs, 0, y, c, h, h' => by
    simp at h h'
    subst h h'
    cases b <;> simp [pick]
  | x :: xs, b :: bs, i + 1, y, c, h, h' => by
    have ih := pick_step (xs := xs) (bs := bs) (i := i) (x := y) (b := c) (by simpa using h) (by simpa using h')
    cases b
    · show pick (xs.take (i + 1)) (bs.take (i + 1)) = _
      rw [ih]; rfl
    · show x :: pick (xs.take (i + 1)) (bs.take (i + 1)) = _
      rw [ih]; rfl
section
variable {X : Cx} {D a : Addr} {oe : Obj} {σ : L2.St} {H : Hp} {Q : VK}
/-- the walk of the comprehension -/
theorem walk_zipP {K : PySem.W.Frag} {la lb : Addr} {xs ys : List V} (hl : xs.length = ys.length) : Walk (ItzP K la lb) xs.length (fun H => SqL K H la xs ∧ SqL K H lb ys) (YPair (fun i => xs[i]?) (fun i => ys[i]?)) := by
  have w := walk_zip (K := K) (a := la) (b := lb) (xs := xs) (ys := ys) (n := xs.length) (by omega)
  exact ⟨w.goes, fun H q => ⟨xs, ys, q.1, q.2, Nat.le_refl _⟩, w.yields⟩
end
/-! ### its text -/
def isC (c : Str) : Expr → Bool
  | .Call (.Name i _) [.Name v _, .Name y _] [] _ => decide (i = "isinstance") && decide (v = "e") && decide (y = c)
  | _ => false
def neN : List Str := ["e", "some", "words", "word", "good"]
def neOwn : List (Str × Nat) := [("word", 3), ("good", 4)]
def neB : List Stmt → Option Scope
  | [.Assign [.Name s1 _] (.List [a1, a2, a3] _) _, .Assign [.Name s2 _] (.BinOp (.Name s3 _) .Add (.List [a4, a5, a6] _) _) _, .Assign [.Name s4 _] (.BinOp (.Name s5 _) .Add (.List [a7, a8, a9] _) _) _, .Assign [.Name w1 _] (.Constant (.str ws) _ _) _,
      .Return (some (.Call (.Attribute (.Constant (.str sp) _ _) jn ap) [.ListComp (.Name e1 _) [⟨.Tuple [.Name t1 _, .Name t2 _] _ _, .Call (.Name z _) [.Call (.Attribute (.Name w2 _) sn ap2) [.Constant (.str sp2) _ _] [] cp2, .Name s6 _] [] _, [.Name t3 _], y⟩] scope _] [] cp)) _] =>
    grd (isC "InvalidLand" a1 && isC "InvalidScript" a2 && isC "InvalidAmount" a3 && isC "InvalidNumber" a4 && isC "InvalidFacts" a5 && isC "InvalidText" a6 && isC "TooLate" a7 && isC "NothingToUndo" a8 && isC "ValueError" a9 &&
      decide (s1 = "some") && decide (s2 = "some") && decide (s3 = "some") && decide (s4 = "some") && decide (s5 = "some") && decide (s6 = "some") && decide (w1 = "words") && decide (w2 = "words") && decide (ws = nameWords) && decide (sp = " ") && decide (sp2 = " ") && decide (jn = "join") && decide (sn = "split") &&
      decide (e1 = "word") && decide (t1 = "word") && decide (t2 = "good") && decide (t3 = "good") && decide (z = "zip") && (y == 0) && (ap.endLine == cp.line) && (ap2.endLine == cp2.line)) (some scope)
  | _ => none
/-- the scope of the def, of the block within -/
def neSc (sc scope : Scope) : Bool := decide (sc.names.lookup ("e" : Str) = some .local) && decide (sc.names.lookup ("some" : Str) = some .local) && decide (sc.names.lookup ("words" : Str) = some .local) && blkC neN sc scope neOwn && decide ((relS scope sc).names.lookup ("word" : Str) = some .local) && decide ((relS scope sc).names.lookup ("good" : Str) = some .local) &&
  ownCls.all (fun c => glB sc c && !(c == ("__debug__" : Str))) && glB sc "ValueError" && glB sc "isinstance" && glB sc "zip"
section
variable {X : Cx} {D a : Addr} {oe : Obj} {bs : List Bool}
theorem isC_own (Nm : Named X D bs) (hp : (a, oe) ∈ X.pn) (hz : Zc (.ref D) none oe) (hf : ∃ vs, oe.data = .fields vs) (h0 : X.N[0]? = some ("e" : Str)) (hv : Vis X.env.scope "e") (hgi : Gl X "isinstance") {i : Nat} {c : Str} {e : Expr} (hi : ownCls[i]? = some c) (hgc : Gl X c) (hd : (c == ("__debug__" : Str)) = false) (h : isC c e = true) :
    ∃ b, bs[i]? = some b ∧ PE X e (tIs a b) := by
  obtain ⟨Cc, b, h1, h2, h3⟩ := Nm.own i c hi
  refine ⟨b, h2, ?_⟩
  unfold isC at h
  split at h
  · simp only [Bool.and_eq_true, decide_eq_true_eq] at h
    obtain ⟨⟨rfl, rfl⟩, rfl⟩ := h
    exact is_own Nm.C hp hz hf h0 hv hgi Nm.mi hgc h1 h3 hd
  · cases h
theorem isC_ve (Nm : Named X D bs) (hp : (a, oe) ∈ X.pn) (hz : Zc (.ref D) none oe) (hf : ∃ vs, oe.data = .fields vs) (h0 : X.N[0]? = some ("e" : Str)) (hv : Vis X.env.scope "e") (hgi : Gl X "isinstance") {e : Expr} (hgc : Gl X "ValueError") (h : isC "ValueError" e = true) :
    ∃ b, bs[8]? = some b ∧ PE X e (tIs a b) := by
  obtain ⟨b, h2, h3⟩ := Nm.ve
  refine ⟨b, h2, ?_⟩
  unfold isC at h
  split at h
  · simp only [Bool.and_eq_true, decide_eq_true_eq] at h
    obtain ⟨⟨rfl, rfl⟩, rfl⟩ := h
    exact is_ve Nm.C hp hz hf h0 hv hgi Nm.mi hgc Nm.mv h3
  · cases h
theorem nine {bs : List Bool} (h : bs.length = 9) {b0 b1 b2 b3 b4 b5 b6 b7 b8 : Bool} (h0 : bs[0]? = some b0) (h1 : bs[1]? = some b1) (h2 : bs[2]? = some b2) (h3 : bs[3]? = some b3) (h4 : bs[4]? = some b4) (h5 : bs[5]? = some b5) (h6 : bs[6]? = some b6) (h7 : bs[7]? = some b7) (h8 : bs[8]? = some b8) : bs = [b0, b1, b2, b3, b4, b5, b6, b7, b8] := by
  match bs, h with
  | [c0, c1, c2, c3, c4, c5, c6, c7, c8], _ =>
    simp at h0 h1 h2 h3 h4 h5 h6 h7 h8
    subst h0 h1 h2 h3 h4 h5 h6 h7 h8
    rfl
theorem words9 : (Txt.split nameWords " ").length = 9 ∧ (Txt.split nameWords " ").map (fun (x : Str) => x.length) = [4, 6, 6, 6, 5, 4, 4, 4, 5] := by decide +kernel
theorem pick_len : ∀ (xs : List Str) (bs : List Bool), (pick xs bs).length ≤ xs.length ∧ ((pick xs bs).map (fun (x : Str) => x.length)).sum ≤ (xs.map (fun (x : Str) => x.length)).sum
  | [], bs => by simp [pick]
  | x :: xs, [] => by simp [pick]
  | x :: xs, b :: bs => by
    obtain ⟨h1, h2⟩ := pick_len xs bs
    cases b
    · show (pick xs bs).length ≤ xs.length + 1 ∧ ((pick xs bs).map (fun (x : Str) => x.length)).sum ≤ x.length + (xs.map (fun (x : Str) => x.length)).sum
      omega
    · show (pick xs bs).length + 1 ≤ xs.length + 1 ∧ x.length + ((pick xs bs).map (fun (x : Str) => x.length)).sum ≤ x.length + (xs.map (fun (x : Str) => x.length)).sum
      omega
abbrev rJoin (K : PySem.W.Frag) : V → List V → Hp → VK → Prop := fun x xs H Q => ∃ a p, ∃ ys : List Str, x = .str a ∧ xs = [.ref p] ∧ (SqL K H p (ys.map V.str) ∨ SqT K H p (ys.map V.str)) ∧ (ys.map (·.length)).sum + ys.length * a.length ≤ 16777216 ∧ Q (.str (Txt.join a ys)) H
abbrev rSplit : V → List V → Hp → VK → Prop := fun x xs H Q => ∃ a b, x = .str a ∧ xs = [.str b] ∧ (b.length == 0) = false ∧ a.length + 2 ≤ sizeLine ∧ rNewStrs (Txt.split a b) H Q
/-- the def's last row -/
def neLast (K : PySem.W.Frag) : TS := tRet (tM1 (rJoin K) (L2.tC (.str " ")) (tLc (iZipP K (tCons (tM1 rSplit (tVar 2) (L2.tC (.str " "))) (tCons (tVar 1) tNil))) (gTup K 2 (gCons (gName 3) (gCons (gName 4) gNil))) (tB (tVar 4)) (tVar 3) [3, 4]))
theorem ne_last {K : PySem.W.Frag} {bs : List Bool} {σ : L2.St} {G : Hp} {Q : VK} {nx : L2.St → Hp → Prop} {q5 : Addr} (h9 : bs.length = 9) (h1 : σ[1]? = some (some (V.ref q5))) (h2 : σ[2]? = some (some (V.str nameWords))) (hq : G q5 = some (.lst (bs.map V.bl))) (hl : σ.length = 5)
    (hQ : ∀ H', Same G H' → Q (.str (nameOf bs)) H') : neLast K { nx := nx, rt := Q } σ G := by
  have w9 := words9.1
  refine ⟨⟨" ", rfl⟩, .str nameWords, h2, ⟨nameWords, rfl⟩, nameWords, " ", rfl, rfl, by decide +kernel, by decide +kernel, fun q6 hq6 => ⟨.ref q5, h1, q6, q5, _, _, rfl, SqL.of upd_same, SqL.of (same_new hq6 _ _ hq), fun Dn hDn => ?_⟩⟩
  have hlen : ((Txt.split nameWords " ").map V.str).length = (bs.map V.bl).length := by rw [List.length_map, List.length_map, w9, h9]
  have s6 : Same G (upd G q6 (.lst ((Txt.split nameWords " ").map V.str))) := same_new hq6
  have w3 : ∀ {τ : L2.St} {x y : Option V}, wipe ((τ.set 3 x).set 4 y) [3, 4] = wipe τ [3, 4] := fun {τ x y} => by
    show ((((τ.set 3 x).set 4 y).set 4 none).set 3 none) = ((τ.set 4 none).set 3 none)
    rw [List.set_set, List.set_comm _ _ (show (3 : Nat) ≠ 4 by decide), List.set_set]
  have w4 : wipe (wipe σ [3, 4]) [3, 4] = wipe σ [3, 4] := by
    show ((((σ.set 4 none).set 3 none).set 4 none).set 3 none) = ((σ.set 4 none).set 3 none)
    rw [List.set_comm _ _ (show (3 : Nat) ≠ 4 by decide), List.set_set, List.set_set]
  refine lc_it (g := gTup K 2 (gCons (gName 3) (gCons (gName 4) gNil))) (tt := tB (tVar 4)) (te := tVar 3) (vs := [3, 4]) (σ := σ) (D := Dn) (walk_zipP (K := K) (la := q6) (lb := q5) hlen)
    (fun i H' => Same (upd G q6 (.lst ((Txt.split nameWords " ").map V.str))) H' ∧ ∃ acc, H' Dn = some (.lst (acc.map V.str)) ∧ acc = pick ((Txt.split nameWords " ").take i) (bs.take i)) ⟨same_new hDn, [], upd_same, rfl⟩
    (fun i H' _ ⟨s, _⟩ => ⟨SqL.of (s _ _ upd_same), SqL.of (s _ _ (s6 _ _ hq))⟩) ?_ ?_
  · rintro i x H2 H3 hi ⟨s2, acc, hacc, hpick⟩ ⟨T, u, v, rfl, hT, rfl, hu, hv⟩
    simp only at hu hv
    rw [List.getElem?_map] at hu hv
    obtain ⟨wd, hwd, rfl⟩ := Option.map_eq_some_iff.mp hu
    obtain ⟨b, hb, rfl⟩ := Option.map_eq_some_iff.mp hv
    refine ⟨T, [.str wd, .bl b], rfl, SqT.of upd_same, rfl, .str wd, [.bl b], rfl, .bl b, [], rfl, rfl, ?_⟩
    refine ⟨w3.trans w4, .bl b, ?_, b, rfl, ?_⟩
    · rw [List.getElem?_set, if_pos rfl, if_pos (by rw [List.length_set, wipe_length]; omega)]
    · have ha : (upd H2 T (.tup [.str wd, .bl b])) Dn = some (.lst (acc.map V.str)) := same_new hT _ _ hacc
      have sT : Same (upd G q6 (.lst ((Txt.split nameWords " ").map V.str))) (upd H2 T (.tup [.str wd, .bl b])) := fun c o e => same_new hT _ _ (s2 c o e)
      have st := pick_step hwd hb
      cases b with
      | false =>
        refine ite_ff ⟨sT, acc, ha, ?_⟩
        rw [st, hpick]
        simp
      | true =>
        have hle : acc.length ≤ 9 := by
          rw [hpick]
          have := (pick_len ((Txt.split nameWords " ").take i) (bs.take i)).1
          rw [List.length_take] at this
          omega
        refine ite_tt ⟨.str wd, ?_, acc.map V.str, ha, by rw [List.length_map, sizeLine_eq]; omega, fun c o e => ?_, acc ++ [wd], ?_, ?_⟩
        · rw [List.getElem?_set, if_neg (by decide), List.getElem?_set, if_pos rfl, if_pos (by rw [wipe_length]; omega)]
        · have n : c ≠ Dn := fun z => by rw [z, hDn] at e; cases e
          rw [upd_ne n]
          exact sT c o e
        · rw [List.map_append]; exact upd_same
        · rw [st, hpick]
          simp
  · rintro H2 ⟨s2, acc, hacc, hpick⟩
    rw [List.length_map, List.take_length, List.take_of_length_le (by omega)] at hpick
    subst hpick
    obtain ⟨k1, k2⟩ := pick_len (Txt.split nameWords " ") bs
    refine ⟨" ", Dn, _, rfl, rfl, .inl (SqL.of hacc), ?_, hQ H2 fun c o e => s2 c o (s6 c o e)⟩
    have e1 : (Txt.split nameWords " ").map (fun (x : Str) => x.length) = [4, 6, 6, 6, 5, 4, 4, 4, 5] := words9.2
    rw [e1] at k2
    have e2 : ([4, 6, 6, 6, 5, 4, 4, 4, 5] : List Nat).sum = 44 := by decide
    rw [e2] at k2
    have e3 : ((" " : Str)).length = 1 := by decide +kernel
    rw [e3]
    omega
theorem ne_ok {X : Cx} {D a : Addr} {oe : Obj} {bs : List Bool} {body : List Stmt} {sc2 : Scope} (h : neB body = some sc2) (hs : neSc X.env.scope sc2 = true) (hN : X.N = neN) (Nm : Named X D bs) (h9 : bs.length = 9) (hot : Hot1 X.A (a, oe)) (hp : (a, oe) ∈ X.pn) (hz : Zc (.ref D) none oe) (hf : ∃ vs, oe.data = .fields vs) :
    ∃ t, PSs X body t ∧ ∀ (σ : L2.St) (H : Hp) (Q : VK) (nx : L2.St → Hp → Prop), σ[0]? = some (some (.ref a)) → σ.length = 5 → (∀ H', Same H H' → Q (.str (nameOf bs)) H') → t { nx := nx, rt := Q } σ H := by
  unfold neB at h
  split at h
  · rename_i s1 _ a1 a2 a3 _ _ s2 _ s3 _ a4 a5 a6 _ _ _ s4 _ s5 _ a7 a8 a9 _ _ _ w1 _ ws _ _ _ sp _ _ jn ap e1 _ t1 _ t2 _ _ _ z _ w2 _ sn ap2 sp2 _ _ cp2 s6 _ _ t3 _ y scope _ cp _
    simp only [grd_some, Bool.and_eq_true, decide_eq_true_eq] at h
    obtain ⟨⟨⟨⟨⟨⟨⟨⟨⟨⟨⟨⟨⟨⟨⟨⟨⟨⟨⟨⟨⟨⟨⟨⟨⟨⟨⟨⟨⟨⟨k1, k2⟩, k3⟩, k4⟩, k5⟩, k6⟩, k7⟩, k8⟩, k9⟩, rfl⟩, rfl⟩, rfl⟩, rfl⟩, rfl⟩, rfl⟩, rfl⟩, rfl⟩, rfl⟩, rfl⟩, rfl⟩, rfl⟩, rfl⟩, rfl⟩, rfl⟩, rfl⟩, rfl⟩, rfl⟩, hy⟩, l1⟩, l2⟩, e⟩ := h
    cases e
    have hy := eq_of_beq hy
    subst hy
    simp only [neSc, Bool.and_eq_true, decide_eq_true_eq] at hs
    obtain ⟨⟨⟨⟨⟨⟨⟨⟨⟨c1, c2⟩, c3⟩, c4⟩, c5⟩, c6⟩, c7⟩, c8⟩, c9⟩, c10⟩ := hs
    have glo : ∀ c ∈ ownCls, Gl X c ∧ (c == ("__debug__" : Str)) = false := fun c hc => by
      have := List.all_eq_true.mp c7 c hc
      simp only [Bool.and_eq_true, Bool.not_eq_true'] at this
      exact ⟨glB_gl this.1, this.2⟩
    have gi : Gl X "isinstance" := glB_gl c9
    have gz : Gl X "zip" := glB_gl c10
    have gv : Gl X "ValueError" := glB_gl c8
    have nd : X.N.Nodup := by rw [hN]; decide
    have n0 : X.N[0]? = some ("e" : Str) := by rw [hN]; rfl
    have n1 : X.N[1]? = some ("some" : Str) := by rw [hN]; rfl
    have n2 : X.N[2]? = some ("words" : Str) := by rw [hN]; rfl
    have n3 : X.N[3]? = some ("word" : Str) := by rw [hN]; rfl
    have n4 : X.N[4]? = some ("good" : Str) := by rw [hN]; rfl
    have v0 : Vis X.env.scope "e" := .inl c1
    have own := fun {i : Nat} {c : Str} {e : Expr} (hi : ownCls[i]? = some c) (k : isC c e = true) => isC_own Nm hp hz hf n0 v0 gi hi (glo c (List.mem_of_getElem? hi)).1 (glo c (List.mem_of_getElem? hi)).2 k
    obtain ⟨b0, hb0, p0⟩ := own (i := 0) rfl k1
    obtain ⟨b1, hb1, p1⟩ := own (i := 1) rfl k2
    obtain ⟨b2, hb2, p2⟩ := own (i := 2) rfl k3
    obtain ⟨b3, hb3, p3⟩ := own (i := 3) rfl k4
    obtain ⟨b4, hb4, p4⟩ := own (i := 4) rfl k5
    obtain ⟨b5, hb5, p5⟩ := own (i := 5) rfl k6
    obtain ⟨b6, hb6, p6⟩ := own (i := 6) rfl k7
    obtain ⟨b7, hb7, p7⟩ := own (i := 7) rfl k8
    obtain ⟨b8, hb8, p8⟩ := isC_ve Nm hp hz hf n0 v0 gi gv k9
    have hbs := nine h9 hb0 hb1 hb2 hb3 hb4 hb5 hb6 hb7 hb8
    have pl : ∀ {e : Expr} {c : Str}, isC c e = true → plainE e = true := fun {e c} k => by
      cases e <;> first | rfl | (simp [isC] at k)
    have three := fun {x y z : Expr} {bx cx dx : Bool} (hx : PE X x (tIs a bx)) (hy : PE X y (tIs a cx)) (hz : PE X z (tIs a dx)) (px : plainE x = true) (py : plainE y = true) (pz : plainE z = true) => pa_cons hx (pa_cons hy (pa_cons hz pa_nil (star_plain pz)) (star_plain py)) (star_plain px)
    have bok : BlkOk X.N X.env.scope sc2 neOwn := by rw [hN]; exact blkOk_by c4
    have hwords := fun (q1 q2 : Pos) (k : Nat) => pe_split (X := X) (o := .Name "words" q1) (e := .Constant (.str " ") k q2) (apos := ap2) (pos := cp2) (pe_var (pos := q1) n2 (.inl c3)) (pe_str (j := k) (pos := q2)) rfl rfl l2
    have hzip := fun (q1 q2 q3 q4 q5 q6 : Pos) (k k2 : Nat) (es : List Expr) => pi_zipP (X := X) (elts := es) (kk := k2) (tpos := q6) (p := q4) (pos := q5) gz Nm.mz (pa_cons (hwords q1 q2 k) (pa_cons (pe_var (pos := q3) n1 (.inl c2)) pa_nil)) rfl rfl
    have hlc := fun (q1 q2 q3 q4 q5 q6 q7 q8 q9 q10 q11 : Pos) (k k2 : Nat) => pe_lcP (X := X) (elt := .Name "word" q7) (es := [.Name "word" q8, .Name "good" q9]) (k := k2) (n := 2) (tpos := q6) (ifs := [.Name "good" q10]) (scope := sc2) (own := neOwn) (pos := q11) hot hp nd (hzip q1 q2 q3 q4 q5 q6 k k2 _) bok
      (fun s H C cl fp => pgs_cons (pg_name (i := 3) nd n3 (.inl c5) (.inr c5)) (pgs_cons (pg_name (i := 4) nd n4 (.inl c6) (.inr c6)) pgs_nil)) (fun env => rfl) (fun env => rfl)
      (fun s H C cl fp => pts_one (pt_val (pe_var (pos := q10) n4 (.inl c6)))) (fun s H C cl fp => pe_var (pos := q7) n3 (.inl c5)) (fun x => rfl)
    refine ⟨_, pss_cons (ps_set nd n1 (.inl c2) (pe_lst (three p0 p1 p2 (pl k1) (pl k2) (pl k3))) rfl (.inr c2)) (pss_cons (ps_set nd n1 (.inl c2) (pe_op op_cat (pe_var n1 (.inl c2)) (pe_lst (three p3 p4 p5 (pl k4) (pl k5) (pl k6)))) rfl (.inr c2))
      (pss_cons (ps_set nd n1 (.inl c2) (pe_op op_cat (pe_var n1 (.inl c2)) (pe_lst (three p6 p7 p8 (pl k7) (pl k8) (pl k9)))) rfl (.inr c2)) (pss_cons (ps_set nd n2 (.inl c3) pe_str rfl (.inr c3)) (pss_one (ps_ret (pe_join pe_str (hlc _ _ _ _ _ _ _ _ _ _ _ _ _) rfl rfl l1)))))), ?_⟩
    intro σ H Q nx h0 hl hQ
    have at0 : ∀ {τ : L2.St} {i : Nat} {v : Option V}, i ≠ 0 → τ[0]? = some (some (V.ref a)) → (τ.set i v)[0]? = some (some (V.ref a)) := fun {τ i v} n h => by rw [List.getElem?_set, if_neg n]; exact h
    have up : ∀ {G : Hp} {q b : Addr} {o u : HO}, G q = none → G b = some u → upd G q o b = some u := fun {G q b o u} hq hb => same_new hq _ _ hb
    refine ⟨h0, h0, h0, show 3 ≤ sizeLine by decide, fun q1 hq1 => ?_⟩
    have h0 := at0 (i := 1) (v := some (.ref q1)) (by decide) h0
    refine ⟨.ref q1, by rw [List.getElem?_set, if_pos rfl, if_pos (by omega)], h0, h0, h0, show 3 ≤ sizeLine by decide, fun q2 hq2 => ⟨q1, q2, _, _, rfl, rfl, up hq2 upd_same, upd_same, show 3 + 3 ≤ sizeLine by decide, fun q3 hq3 => ?_⟩⟩
    have h0 := at0 (i := 1) (v := some (.ref q3)) (by decide) h0
    refine ⟨.ref q3, by rw [List.getElem?_set, if_pos rfl, if_pos (by rw [List.length_set]; omega)], h0, h0, h0, show 3 ≤ sizeLine by decide, fun q4 hq4 => ⟨q3, q4, _, _, rfl, rfl, up hq4 upd_same, upd_same, show 6 + 3 ≤ sizeLine by decide, fun q5 hq5 => ?_⟩⟩
    obtain ⟨τ, hσ⟩ : ∃ τ, ((σ.set 1 (some (V.ref q1))).set 1 (some (V.ref q3))).set 1 (some (V.ref q5)) = τ := ⟨_, rfl⟩
    have hτl : τ.length = 5 := by rw [← hσ, List.length_set, List.length_set, List.length_set]; exact hl
    have hτ1 : τ[1]? = some (some (V.ref q5)) := by rw [← hσ, List.getElem?_set, if_pos rfl, if_pos (by rw [List.length_set, List.length_set]; omega)]
    have e9 : ([V.bl b0, V.bl b1, V.bl b2] ++ [V.bl b3, V.bl b4, V.bl b5]) ++ [V.bl b6, V.bl b7, V.bl b8] = bs.map V.bl := by rw [hbs]; rfl
    obtain ⟨G, hG⟩ : ∃ G, upd (upd (upd (upd (upd H q1 (.lst [V.bl b0, V.bl b1, V.bl b2])) q2 (.lst [V.bl b3, V.bl b4, V.bl b5])) q3 (.lst ([V.bl b0, V.bl b1, V.bl b2] ++ [V.bl b3, V.bl b4, V.bl b5]))) q4 (.lst [V.bl b6, V.bl b7, V.bl b8])) q5 (.lst (([V.bl b0, V.bl b1, V.bl b2] ++ [V.bl b3, V.bl b4, V.bl b5]) ++ [V.bl b6, V.bl b7, V.bl b8])) = G := ⟨_, rfl⟩
    have sm : Same H G := fun b o e => by rw [← hG]; exact up hq5 (up hq4 (up hq3 (up hq2 (up hq1 e))))
    have hq : G q5 = some (.lst (bs.map V.bl)) := by rw [← hG, ← e9]; exact upd_same
    have hτ2 : (τ.set 2 (some (V.str nameWords)))[1]? = some (some (V.ref q5)) := by rw [List.getElem?_set, if_neg (by decide)]; exact hτ1
    have hτw : (τ.set 2 (some (V.str nameWords)))[2]? = some (some (V.str nameWords)) := by rw [List.getElem?_set, if_pos rfl, if_pos (by omega)]
    have go := ne_last (K := X.K) (nx := nx) h9 hτ2 hτw hq (by rw [List.length_set]; exact hτl) fun H' s => hQ H' fun b o e => s b o (sm b o e)
    subst hσ hG
    exact go
  · cases h
end
end PD
set_option linter.all false
set_option maxRecDepth 100000
set_option maxHeartbeats 2000000
/-! Lambdas handed to a def, exceptions with context none. -/
namespace PD
open PySem PySem.Spec PyProof.Rows L2 LamX
/-- the context of the def that got it -/
abbrev gotX (X : Cx) (Ng : List Str) (x : Str) (sg : Scope) (g : Addr) (cdg : Value) (s : Shared) (H : Hp) : Cx := cxOf C8.CX0 X.prog X.w X.K X.mg X.base Ng x sg g cdg X.A X.stack s H C8.E0
section
variable {X : Cx} {pins : List (Addr × Obj)} {σ : L2.St} {H : Hp} {s : Shared}
theorem act_N {Ng : List Str} {x : Str} {sg : Scope} {g f c' : Addr} {cdg pm ctv : Value} {params : Arguments} {body : Expr} {scope : Scope} {k : Nat} {a : Str} {pn : List (Addr × Obj)} {xe : Value → Shared → Prop} {W : WX} {E : XK} {tb : TE} {p1 p2 : Pos}
    (I : Inv X pins σ H s) (L : LamS X.env.scope scope) (hf : s.heap.get? f = some (PySem.W.kla_obj "<lambda>" (X.env.qual ++ "<lambda>") params body scope (cloFrom X.env.cells scope.names []) pm c' ctv)) (hfn : H f = none) (hfr : f ∉ frs X.stack)
    (hbind : bindArgs (PySem.W.kla_fn "<lambda>" (X.env.qual ++ "<lambda>") params body scope (cloFrom X.env.cells scope.names []) pm (.ref c') ctv) ⟨[], []⟩ = pure [])
    (tk : L2N.Takes ((gotX X Ng x sg g cdg s H).tr pn xe) W) (hW : ∀ cls d (τ : L2.St) H', τ.length = Ng.length → E cls d H' → W cls d τ H') (hr : Room (k + 1) (X.A.deeper (envOfC x sg s.heap.objs.size g cdg)))
    (hbody : ∀ (A : Around) (outer : List Env) (s : Shared) (H : Hp), Room k (A.deeper (lamEnv X scope s.heap.objs.size f c')) → PE (lamN X A outer s H E scope f c') body tb)
    (hN : Ng[0]? = some a) (hv : Vis sg a) (hd : (a == ("__debug__" : Str)) = false) (hcd : (a == ("__classdict__" : Str)) = false) :
    PE ((gotX X Ng x sg g cdg s H).tr pn xe) (.Call (.Name a p1) [] [] p2) (fun τ HZ Q => τ[0]? = some (some (.ref f)) ∧ HZ c' = some (CodeO c' (X.env.qual ++ "<lambda>")) ∧ tb σ HZ Q) := by
  refine ⟨fun pinsZ sZ τ HZ Q IZ ⟨hs, hc, ht⟩ => wpAny_Call_Name_kw (thn ((pe_var (pos := p1) (i := 0) hN hv hd hcd).run pinsZ sZ τ HZ (fun v G => v = .ref f ∧ G = HZ) IZ ⟨.ref f, hs, rfl, rfl⟩) fun u s1 ⟨v, H1, I1, r1, q1⟩ => ?_)⟩
  obtain ⟨ev, eH⟩ := q1
  subst ev
  rw [eH] at I1
  obtain rfl : u = Value.ref f := r1
  have of1 : s1.heap.get? f = some (PySem.W.kla_obj "<lambda>" (X.env.qual ++ "<lambda>") params body scope (cloFrom X.env.cells scope.names []) pm c' ctv) := I1.base.keep f _ hf hfn hfr (fun z => nomatch (show f ∈ ([] : List Addr) from z))
  have un : Un (frs X.stack) [] H HZ s.heap s1.heap := I1.base
  obtain ⟨⟨oc, vs, t, hoc, hdc, hvc⟩, _, _⟩ := I1.hok c' _ hc
  refine PySem.W.callWith_F0 ⟨_, _, _, _, of1⟩ ?_
  have rc : codeAny (model X.prog X.w) (X.A.deeper (envOfC x sg s.heap.objs.size g cdg)) (.call (.ref f) ⟨[], []⟩) (CR (L2N.CX X.prog X.w) (envOfC x sg s.heap.objs.size g cdg :: X.stack) X.prog X.w HZ s1 Q E) s1 := by
    refine PySem.W.kla_callFunE hr.depth of1 rfl L.co L.gen rfl ⟨c', oc, vs, t, rfl, hoc, hdc, hvc⟩ ?_
    rw [hbind]
    refine wpAny_pure (wpAny_newFunctionEnv (fun y hy => (L.own y hy).2) (fun y hy => absurd hy (by simp)) (fun h1 hns hsb => ⟨I1.nolimit.fresh _ hsb, ?_⟩) L.kind)
    show codeAny _ _ (.expr body (lamEnv X scope s1.heap.objs.size f c')) _ _
    have J := (lam_start2 (f := f) (c' := c') (E := E) (tk := s1.toks + ([] : List (Str × Value)).length) I L I1.env0 hr.hd un hns fun b o e => hsb.extBut b o (Nat.ne_of_lt (Heap.lt_size e)) (Heap.get?_push_of_some _ e)).wish
      fun e s' => wpAny (model X.prog X.w) ((X.A.deeper (envOfC x sg s.heap.objs.size g cdg)).deeper (lamEnv X scope s1.heap.objs.size f c')) (leaving (lamEnv X scope s1.heap.objs.size f c') e) (fun _ s2 => L2N.CX X.prog X.w (envOfC x sg s.heap.objs.size g cdg :: X.stack) HZ s1 E e s2) (fun e2 s2 => L2N.CX X.prog X.w (envOfC x sg s.heap.objs.size g cdg :: X.stack) HZ s1 E e2 s2) s'
    refine PySem.W.kla_codeExpr (wpAny_mono ((hbody _ _ s1 HZ (hr.deeper _)).run [] _ _ HZ Q J ht) (fun v s' hq => ?_) fun e s' hq => hq)
    obtain ⟨w', H', J', rv, q⟩ := hq
    exact ⟨w', H', J'.os, J'.bare, J'.base, J'.hok, rv, q⟩
  have hx := fun (pins : List (Addr × Obj)) (σ : L2.St) (H : Hp) (s : Shared) (e : Value) (s' : Shared) (J : Inv ((gotX X Ng x sg g cdg _ _).tr pn xe) pins σ H s) (c : L2N.CX X.prog X.w _ H s E e s') => tk e s' (L2N.XE.of_call (E := E) J (fun cls d H' h => hW cls d σ H' J.len h) c)
  refine wpAny_call (codeAny_mono rc fun r s' hq => ?_)
  cases r with
  | error e => exact hx pinsZ τ HZ s1 e s' I1 hq
  | ok fl =>
    cases fl with
    | ret u => exact I1.after hq
    | next => exact False.elim hq
    | brk => exact False.elim hq
    | cont => exact False.elim hq
end
/-- what the def that calls it gives; B: what holds of it beforehand -/
def GivesN (X : Cx) (Ng : List Str) (x : Str) (sg : Scope) (g : Addr) (cdg : Value) (bg : List Stmt) (a q : Str) (k : Nat) (TT : (XK → Hp → VK → Prop) → Hp → VK → Prop) : Prop :=
  ∀ (f c' : Addr) (s : Shared) (H : Hp) (Q : VK) (tl : XK → Hp → VK → Prop), Room k (X.A.deeper (envOfC x sg s.heap.objs.size g cdg)) →
    (∀ (W : WX) (pn : List (Addr × Obj)) (xe : Value → Shared → Prop) (E : XK) (p1 p2 : Pos), L2N.Takes ((gotX X Ng x sg g cdg s H).tr pn xe) W → (∀ cls d (τ : L2.St) H', τ.length = Ng.length → E cls d H' → W cls d τ H') →
      PE ((gotX X Ng x sg g cdg s H).tr pn xe) (.Call (.Name a p1) [] [] p2) (fun τ HZ Q => τ[0]? = some (some (.ref f)) ∧ HZ c' = some (CodeO c' q) ∧ tl E HZ Q)) →
    H c' = some (CodeO c' q) → TT tl H Q → ∃ t, PSs (gotX X Ng x sg g cdg s H).nox bg t ∧ t { nx := fun _ H' => Q .non H', rt := Q } (L2.start Ng [.ref f]) H
section
variable {X : Cx}
theorem lamcall_N {T : List (Addr × Str)} {TT : (XK → Hp → VK → Prop) → Hp → VK → Prop} {x a : Str} {g c P : Addr} {k : Nat} {pg : Arguments} {bg : List Stmt} {sg : Scope} {dV kV doc pm cdv ct oc : Value} {an od : Option Addr} {osl : Array (Option Value)} {Ng : List Str}
    {params : Arguments} {body : Expr} {scope : Scope} {t : XK → TE} {p lpos pos : Pos} (hg : Gl X x) (hm : X.mg x = some (.ref g)) (hk : PySem.W.keepIn X.K (.ref g) = true)
    (lk : X.K.lookup g = some ⟨oc, od, .func (PySem.W.fnOf x x pg bg sg dV kV doc pm an cdv ct), osl⟩) (hcg : PySem.W.codeIn X.K cdv x = true) (hb : L2.Binds X.K (PySem.W.fnOf x x pg bg sg dV kV doc pm an cdv ct) [a] []) (Sg : FnScope Ng [a] sg) (hNg : Ng[0]? = some a) (hva : Vis sg a)
    (hG : GivesN X Ng x sg g cdv bg a (X.env.qual ++ "<lambda>") (k + 1) TT) (TB : TabB X.base X.mg c P) (hcode : X.env.code = .ref c) (hmT : (P, X.env.qual ++ "<lambda>") ∈ T) (hu : ∀ p ∈ T, p.1 = P → p.2 = X.env.qual ++ "<lambda>") (hr : Room (k + 2) X.A) (L : LamS X.env.scope scope)
    (hdef : defaultsOf params X.env = ([], [])) (hbind : ∀ (q : Str) (cl : List (Str × Addr)) (pm cv ctv : Value), bindArgs (PySem.W.kla_fn "<lambda>" q params body scope cl pm cv ctv) ⟨[], []⟩ = pure [])
    (hbody : ∀ (A : Around) (outer : List Env) (s : Shared) (H : Hp) (E : XK) (f c' : Addr), Room k (A.deeper (lamEnv X scope s.heap.objs.size f c')) → PE (lamN X A outer s H E scope f c') body (t E))
    (hdb : (x == ("__debug__" : Str)) = false) (hd : (a == ("__debug__" : Str)) = false) (hcd : (a == ("__classdict__" : Str)) = false) : PE X (.Call (.Name x p) [.Lambda params body scope lpos] [] pos) (tLam T TT t) := by
  refine ⟨fun pins s σ H Q I ⟨hT, h⟩ => wpAny_Call_Name_kw (ld_glob I hg hm (PySem.W.callWith_K (h₀ := X.base) I.ok.mod.kin hk ?_ (by rfl) (by rfl)) hdb)⟩
  show wpAny _ _ (spliced ((false, eval (.Lambda params body scope lpos) X.env) :: backTo pos (starEach [] X.env))) _ _ s
  refine Calls.spliced_cons (lam_make2 I TB hcode hmT hu hT hdef (L.has I.ok) fun f c' pm' ctv H1 s' I1 eN T1 hf hfn hfr hco => Calls.spliced_nil ⟨I1.kIn, ?_⟩)
  have rc : codeAny (model X.prog X.w) X.A (.call (.ref g) ⟨[.ref f], []⟩) (CR C8.CX0 X.stack X.prog X.w H1 s' Q C8.E0) s' := by
    refine run_ofS (N := Ng) (ps := [a]) (us := [.ref f]) (vs := [.ref f]) lk hcg Sg hr I1.env0 (hb s' [.ref f] I1.kIn rfl) (.cons rfl .nil) rfl fun hr' => ?_
    obtain ⟨t', ht', hq'⟩ := hG f c' s' H1 Q (fun E H' Q' => t E σ H' Q') hr' (fun W pn xe E p1 p2 tk hW => act_N I1 L hf hfn hfr (hbind _ _ _ _ _) tk hW hr' (fun A outer s H hr2 => hbody A outer s H E f c' hr2) hNg hva hd hcd) hco (h H1 eN T1)
    exact ⟨t', ht'.nox, hq'⟩
  refine wpAny_call (codeAny_mono rc fun r s2 hq => ?_)
  cases r with
  | error e => exact (show False from hq).elim
  | ok fl =>
    cases fl with
    | ret u => exact I1.after hq
    | next => exact False.elim hq
    | brk => exact False.elim hq
    | cont => exact False.elim hq
end
end PD
set_option linter.all false
set_option maxRecDepth 100000
set_option maxHeartbeats 2000000
/-! The law's def that names the error of what it is handed. -/
namespace PD
open PySem PySem.Spec PyProof.Rows L2 LamX HotX L2H
theorem takesN0 {X : Cx} : L2N.Takes X (fun _ _ _ _ => False) := fun _ _ x => by
  obtain ⟨_, _, _, _, _, _, _, _, _, _, _, _, _, _, _, _, z⟩ := x
  exact z.elim
/-- the def that names a caught error, as the other def finds it -/
structure NeDef (K : PySem.W.Frag) (mg : Str → Option Value) (x : Str) : Prop where
  ex : ∃ (f oc cdv dV kV doc pm ct : Value) (fa : Addr) (od an : Option Addr) (osl : Array (Option Value)) (params : Arguments) (body : List Stmt) (scope sc2 : Scope), f = .ref fa ∧ mg x = some f ∧ PySem.W.keepIn K f = true ∧
    K.lookup fa = some ⟨oc, od, .func (PySem.W.fnOf x x params body scope dV kV doc pm an cdv ct), osl⟩ ∧ PySem.W.codeIn K cdv x = true ∧ L2.Binds K (PySem.W.fnOf x x params body scope dV kV doc pm an cdv ct) ["e"] [] ∧ FnScope neN ["e"] scope ∧ neB body = some sc2 ∧ neSc scope sc2 = true
section
variable {X : Cx} {a D : Addr} {oe : Obj} {bs : List Bool} {pn : List (Addr × Obj)}
/-- its call in the suite -/
theorem pe_ne {k i : Nat} {x : Str} {cls : Value} {d : Option Addr} {p1 p2 pos : Pos} (nd : NeDef X.K X.mg x) (hg : Gl X x) (hr : RoomH (k + 1) X.A) (hi : X.N[i]? = some ("e" : Str)) (hv : Vis X.env.scope "e") (hz : L2N.Zn cls d oe) (hf : ∃ vs, oe.data = .fields vs) (hdb : (x == ("__debug__" : Str)) = false) :
    PE (X.suite a ((a, oe) :: pn)) (.Call (.Name x p1) [.Name "e" p2] [] pos) (fun σ H Q => σ[i]? = some (some (.ref a)) ∧ d = none ∧ (∃ D bs, cls = .ref D ∧ Named X D bs ∧ bs.length = 9 ∧ ∀ H', Same H H' → Q (.str (nameOf bs)) H')) := by
  refine ⟨fun pins s σ H Q I ⟨h0, hd, D, bs, hcls, Nm, h9, hQ⟩ => ?_⟩
  subst hd hcls
  obtain ⟨f, oc, cdv, dV, kV, doc, pm, ct, fa, od, an, osl, params, body, scope, sc2, rfl, hm, hk, lk, hcd, hb, S, hB, hS⟩ := nd.ex
  have hot : Hot1 (X.suite a ((a, oe) :: pn)).A (a, oe) := by
    obtain ⟨vs, hvs⟩ := hf
    exact ⟨rfl, vs, hvs, hz.2.2 vs hvs⟩
  refine wpAny_Call_Name_kw (ld_glob I hg hm ?_ hdb)
  refine PySem.W.callWith_K (h₀ := X.base) I.ok.mod.kin hk (thn ((pa_cons (pe_var (X := X.suite a ((a, oe) :: pn)) (i := i) hi hv) pa_nil).run pos pins s σ H (fun vs H' => vs = [.ref a] ∧ H' = H) I ⟨.ref a, h0, rfl, rfl⟩) fun us s1 ⟨vs, H1, I1, r, q, eH⟩ => ⟨I1.kIn, ?_⟩) (by rfl) (by rfl)
  subst q eH
  refine run_hotP (X := X.suite a ((a, oe) :: pn)) (CX := C8.CX0) (E := C8.E0) (N := neN) (ps := ["e"]) (k := k) (p := (a, oe)) lk hcd S ⟨hr.dp, hr.un⟩ hot List.mem_cons_self hb (fun e s' z => z) I1 r rfl fun hr' => ?_
  obtain ⟨t, ht, hq⟩ := ne_ok (X := cxH C8.CX0 X.prog X.w X.K X.mg X.base neN x scope fa cdv (X.A.mark (some (.ref a))) X.stack s1 H1 C8.E0 (a, oe)) (bs := bs) (D := D) hB hS rfl ⟨Nm.C, Nm.own, Nm.ve, Nm.mv, Nm.mi, Nm.mz⟩ h9 hot List.mem_cons_self hz.zc hf
  exact ⟨t, ht, hq _ _ _ _ rfl rfl hQ⟩
end
/-- try: call() / except RainError as e: return named(e) / return '' -/
def leB (a e r n : Str) : List Stmt → Bool
  | [.Try [.Expr (.Call (.Name a1 _) [] [] _) _] [.ExceptHandler (some (.Name r1 _)) (some e1) [.Return (some (.Call (.Name n1 _) [.Name e2 _] [] _)) _] _] [] [] _, .Return (some (.Constant (.str z) _ _)) _] =>
    decide (a1 = a) && decide (r1 = r) && decide (e1 = e) && decide (n1 = n) && decide (e2 = e) && decide (z = ("" : Str))
  | _ => false
/-- what the def tells of a call: of its error -/
def TErr (X : Cx) (RE : Addr) : (XK → Hp → VK → Prop) → Hp → VK → Prop := fun tl H Q =>
  tl (fun cls d H' => PySem.W.exmOne X.K cls (.ref RE) = some true ∧ d = none ∧ ∃ D bs, cls = .ref D ∧ Named X D bs ∧ bs.length = 9 ∧ ∀ H2, Same H' H2 → Q (.str (nameOf bs)) H2) H (fun _ H' => Q (.str "") H')
theorem err_gives {X : Cx} {x q r n : Str} {sg : Scope} {g RE : Addr} {cdg : Value} {k : Nat} {bg : List Stmt} (hB : leB "call" "e" r n bg = true) (nd : NeDef X.K X.mg n) (hgr : sg.names.lookup r = some .globalImplicit) (hmr : X.mg r = some (.ref RE)) (hgn : sg.names.lookup n = some .globalImplicit)
    (hle : sg.names.lookup ("e" : Str) = some .local) (hdr : (r == ("__debug__" : Str)) = false) (hdn : (n == ("__debug__" : Str)) = false) : GivesN X ["call", "e"] x sg g cdg bg "call" q (k + 1) (TErr X RE) := by
  intro f c' s H Q tl hr act hc h
  unfold leB at hB
  split at hB
  · simp only [Bool.and_eq_true, decide_eq_true_eq] at hB
    obtain ⟨⟨⟨⟨⟨k1, k2⟩, k3⟩, k4⟩, k5⟩, k6⟩ := hB
    subst k1 k2 k3 k4 k5 k6
    refine ⟨_, pss_cons (L2N.ps_try_as (X := (gotX X ["call", "e"] x sg g cdg s H).nox) (n := ("e" : Str)) (c := .ref RE) (i := 1) (Wout := fun _ _ _ _ => False)
      (tb := fun W D σ H' => ∃ E : XK, (∀ cls d (τ : L2.St) H', τ.length = 2 → E cls d H' → W cls d τ H') ∧ tDrop (fun τ HZ Q => τ[0]? = some (some (.ref f)) ∧ HZ c' = some (CodeO c' q) ∧ tl E HZ Q) D σ H')
      (ts := fun a cls d => tRet (fun σ H Q => σ[1]? = some (some (.ref a)) ∧ d = none ∧ (∃ D bs, cls = .ref D ∧ Named X D bs ∧ bs.length = 9 ∧ ∀ H', Same H H' → Q (.str (nameOf bs)) H')))
      rfl rfl (by show (["call", "e"] : List Str).Nodup; decide) rfl hle ⟨hgr, hdr, .inl hmr⟩ takesN0 (fun W pn xe tk _ => ?_) (fun a oe cls d pn hz hf => ?_)) (pss_one (ps_ret pe_str)), ?_⟩
    · refine ⟨fun pins s' σ H' D I h' => ?_⟩
      obtain ⟨E, hW, h1⟩ := h'
      exact (pss_one (ps_expr (act W pn xe E _ _ tk hW))).run pins s' σ H' D I h1
    · refine pss_one (ps_ret ?_)
      have hp := fun (p1 p2 pos : Pos) => pe_ne (X := (gotX X ["call", "e"] x sg g cdg s H).nox) (a := a) (oe := oe) (pn := pn) (k := k) (i := 1) (cls := cls) (d := d) (p1 := p1) (p2 := p2) (pos := pos) nd hgn ⟨hr.dp, hr.un⟩ rfl (.inl hle) hz hf hdn
      exact (hp _ _ _).imp fun σ H Q ⟨h0, hd, D, bs, h1, Nm, h2, h3⟩ => ⟨h0, hd, D, bs, h1, ⟨Nm.C, Nm.own, Nm.ve, Nm.mv, Nm.mi, Nm.mz⟩, h2, h3⟩
    · refine ⟨fun cls d H' => PySem.W.exmOne X.K cls (.ref RE) = some true ∧ d = none ∧ ∃ D bs, cls = .ref D ∧ Named X D bs ∧ bs.length = 9 ∧ ∀ H2, Same H' H2 → Q (.str (nameOf bs)) H2, fun cls d τ H' hl ⟨h1, h2, h3⟩ => ⟨true, h1, fun _ a _ => ⟨?_, h2, h3⟩, fun z => by cases z⟩, rfl, hc, h⟩
      rw [List.getElem?_set, if_pos rfl, if_pos (by omega)]
  · cases hB
end PD
set_option linter.all false
set_option maxRecDepth 100000
set_option maxHeartbeats 2000000
/-! The rule for a lambda handed to the def that names its error. -/
namespace PD
open PySem PySem.Spec PyProof.Rows L2 LamX HotX L2H
section
variable {F : Fx} {σ : Slots} {H H1 H' : Hp} {e : SEnv} {B : Bg}
theorem noBag_get {i : Nat} {s : Sl} (h : (noBag e)[i]? = some s) : s ≠ .bag ∧ (s = .emp ∨ e[i]? = some s) := by
  unfold noBag at h
  rw [List.getElem?_map] at h
  obtain ⟨s', h1, h2⟩ := Option.map_eq_some_iff.mp h
  cases s' <;> subst h2 <;> simp [h1]
theorem noBag_own {i : Nat} (h : Own (noBag e) i) : ∃ ds, e[i]? = some (.own ds) := by
  rcases h with h | ⟨ds, h⟩
  · exact absurd rfl (noBag_get h).1
  · rcases (noBag_get h).2 with z | z
    · cases z
    · exact ⟨ds, z⟩
theorem noBag_bm {a : Addr} (h : Bm σ (noBag e) a) : False := by
  obtain ⟨i, h1, _⟩ := h
  exact (noBag_get h1).1 rfl
theorem noBag_av {a : Addr} (h : Av F σ (noBag e) a) : Av F σ e a := h.elim .inl fun ⟨i, h1, h2⟩ => .inr ⟨i, .inr (noBag_own h1), h2⟩
theorem SI.noBag (I : SI F σ H e B) (hb : F.b0 = none) : SI F σ H (noBag e) [] := by
  refine ⟨?_, I.ext, I.tabs, I.dom', fun i d h => ?_, fun i ds h => ?_, fun i h => absurd rfl (noBag_get h).1, fun i j a h1 h2 => I.inj i j a (.inr (noBag_own h1)) (.inr (noBag_own h2)), fun i j h => absurd rfl (noBag_get h).1, fun b h => ?_, fun p hp => (I.kp p hp).thru (.less fun a => noBag_av) (.less fun a => noBag_av), fun i kvs h => by
    have h := ((noBag_get h).2.resolve_left (fun z => by cases z))
    obtain ⟨h0, a, xs, e1, e2, e3, e4, e5, e6, e7⟩ := I.dic i kvs h
    exact ⟨h0, a, xs, e1, e2, e3, e4.less fun a => noBag_av, e5, e6, fun j kws q => e7 j kws ((noBag_get q).2.resolve_left (fun z => by cases z))⟩, fun i a fs h => by
    have h := ((noBag_get h).2.resolve_left (fun z => by cases z))
    obtain ⟨h0, e1, e2⟩ := I.ins i a fs h
    exact ⟨h0, e1, e2.less fun a => noBag_av⟩⟩
  · unfold PD.noBag; rw [List.length_map]; exact I.len
  · rcases (noBag_get h).2 with z | z
    · cases z
    · obtain ⟨v, h1, h2⟩ := I.val i d z
      exact ⟨v, h1, h2.less fun a => noBag_av⟩
  · rcases (noBag_get h).2 with z | z
    · cases z
    · obtain ⟨h0, a, xs, h1, h2, h3, h4, h5, h6⟩ := I.own i ds z
      exact ⟨h0, a, xs, h1, h2, h3, h4.less fun a => noBag_av, h5, fun q => h6 (q.elim .inl fun q => (noBag_bm q).elim)⟩
  · rw [hb] at h; cases h
theorem SI.lam (I : SI F σ H e B) (eN : ExtN H H1) (T1 : Tabs F.T H1) (x : Ext F.T (Bm σ (PD.noBag e)) H1 H') : Go F σ H e B H' := by
  refine ⟨⟨fun a o h n t => x.keep a o (eN a o h t) (fun z => noBag_bm z) t, fun a xs h => x.tups a xs (eN a _ h fun ps z => by cases z), fun a o u h => x.frzs a o u (eN a _ h fun ps z => by cases z), fun _ => x.tabs T1⟩, fun i b h1 h2 => ?_⟩
  obtain ⟨_, b', e1, e2, _⟩ := I.bag i h1
  rw [h2] at e1; cases e1
  exact x.keep b _ (eN b _ e2 fun ps z => by cases z) (fun z => noBag_bm z) fun ps z => by cases z
end
/-- the def that tells the error's name of what it calls -/
structure ErrDef (K : PySem.W.Frag) (mg : Str → Option Value) (x : Str) (RE : Addr) : Prop where
  ex : ∃ (oc cdv dV kV doc pm ct : Value) (g : Addr) (od an : Option Addr) (osl : Array (Option Value)) (params : Arguments) (bg : List Stmt) (sg : Scope) (r n : Str), mg x = some (.ref g) ∧ PySem.W.keepIn K (.ref g) = true ∧
    K.lookup g = some ⟨oc, od, .func (PySem.W.fnOf x x params bg sg dV kV doc pm an cdv ct), osl⟩ ∧ PySem.W.codeIn K cdv x = true ∧ L2.Binds K (PySem.W.fnOf x x params bg sg dV kV doc pm an cdv ct) ["call"] [] ∧ FnScope ["call", "e"] ["call"] sg ∧
    leB "call" "e" r n bg = true ∧ NeDef K mg n ∧ sg.names.lookup r = some .globalImplicit ∧ mg r = some (.ref RE) ∧ sg.names.lookup n = some .globalImplicit ∧ sg.names.lookup ("e" : Str) = some .local ∧ (r == ("__debug__" : Str)) = false ∧ (n == ("__debug__" : Str)) = false
/-- the numbers of errors and their names -/
def EnOk (X : Cx) (F : Fx) (RE : Addr) : Prop := ∀ c z, F.Γ.en c = some z → PySem.W.exmOne X.K (.ref (F.cls c)) (.ref RE) = some true ∧ ∃ bs, Named X (F.cls c) bs ∧ bs.length = 9 ∧ nameOf bs = z
theorem lamRule_ok {X : Cx} {F : Fx} {x : Str} {k : Nat} {RE c P : Addr} (hb0 : F.b0 = none) (hg : Gl X x) (hdb : (x == ("__debug__" : Str)) = false) (ed : ErrDef X.K X.mg x RE) (TB : LamX.TabB X.base X.mg c P) (hcode : X.env.code = .ref c) (hmT : (P, X.env.qual ++ "<lambda>") ∈ F.T)
    (hu : ∀ p ∈ F.T, p.1 = P → p.2 = X.env.qual ++ "<lambda>") (hr : Room (k + 2) X.A) (hen : EnOk X F RE) : LamRule X F x false k := by
  intro body scope lpos p pos m W L hb
  obtain ⟨oc, cdv, dV, kV, doc, pm, ct, g, od, an, osl, params, bg, sg, r, n, hm, hk, lk, hcg, hbn, Sg, hB, nd, hgr, hmr, hgn, hle, hdr, hdn⟩ := ed.ex
  have hva : Vis sg "call" := (Sg.par "call" (by simp)).elim .inl fun h => .inr (.inl h)
  refine (lamcall_N (T := F.T) (TT := TErr X RE) (a := "call") (Ng := ["call", "e"]) (k := k) (t := fun E => tD F (fun c H' => E (.ref (F.cls c)) none H') m) hg hm hk lk hcg hbn Sg rfl hva (err_gives hB nd hgr hmr hgn hle hdr hdn) TB hcode hmT hu hr L rfl (fun _ _ _ _ _ => rfl) (fun A outer s H E f c' h => hb F.A0 A outer s H E f c' h) hdb (by decide) (by decide)).imp ?_
  rintro σ H Q ⟨e, B, I, hA⟩
  refine ⟨I.tabs, fun H1 eN T1 => ?_⟩
  have I1 : SI F σ H1 (noBag e) [] := (I.step (I.lam eN T1 .refl)).noBag hb0
  refine ⟨noBag e, [], I1, ?_⟩
  have hev : ev F.Γ (.lerr m) e B = (match ev F.Γ m (noBag e) [] with
    | .ok _ => .ok (.str Str.empty, B)
    | .err c => ofO B ((F.Γ.en c).map .str)
    | .stuck => .stuck) := by
    simp only [ev]
    all_goals (cases ev F.Γ m (noBag e) [] <;> rfl)
  have hA : After F W σ H e (ev F.Γ (.lerr m) e B) fun d x H' => ∀ (v : V), Rs F (.lerr m) σ e H' d v → Q v H' := hA
  rw [hev] at hA
  cases q : ev F.Γ m (noBag e) [] with
  | stuck => rw [q] at hA; exact hA
  | ok pr =>
    obtain ⟨d, B'⟩ := pr
    rw [q] at hA
    intro H' gg v _
    exact hA H' (I.lam eN T1 gg.ext) (.str Str.empty) (.ofV fun _ => .ofS _)
  | err c =>
    rw [q] at hA
    have hA : After F W σ H e (ofO B ((F.Γ.en c).map .str)) fun d x H' => ∀ (v : V), Rs F (.lerr m) σ e H' d v → Q v H' := hA
    intro H' xx
    cases qe : F.Γ.en c with
    | none => rw [qe] at hA; exact (show False from hA).elim
    | some z =>
      rw [qe] at hA
      obtain ⟨h1, bs, h2, h3, h4⟩ := hen c z qe
      exact ⟨h1, rfl, _, bs, rfl, h2, h3, fun H2 s2 => by rw [h4]; exact hA H2 (I.lam eN T1 (xx.trans (.same s2))) (.str z) (.ofV fun _ => .ofS _)⟩
end PD
set_option linter.all false
set_option maxRecDepth 100000
set_option maxHeartbeats 2000000
/-! The law's def that tells what a call gives, or the name of its error. -/
namespace PD
open PySem PySem.Spec PyProof.Rows L2 LamX HotX L2H
/-- try: return (call(), '') / except RainError as e: return (None, named(e)) -/
def ltB (a e r n : Str) : List Stmt → Bool
  | [.Try [.Return (some (.Tuple [.Call (.Name a1 _) [] [] _, .Constant (.str z) _ _] _ _)) _] [.ExceptHandler (some (.Name r1 _)) (some e1) [.Return (some (.Tuple [.Constant .none _ _, .Call (.Name n1 _) [.Name e2 _] [] _] _ _)) _] _] [] [] _] =>
    decide (a1 = a) && decide (r1 = r) && decide (e1 = e) && decide (n1 = n) && decide (e2 = e) && decide (z = ("" : Str))
  | _ => false
/-- what the def tells of a call -/
def TTold (X : Cx) (RE : Addr) : (XK → Hp → VK → Prop) → Hp → VK → Prop := fun tl H Q =>
  tl (fun cls d H' => PySem.W.exmOne X.K cls (.ref RE) = some true ∧ d = none ∧ ∃ D bs, cls = .ref D ∧ Named X D bs ∧ bs.length = 9 ∧ ∀ H2, Same H' H2 → ∀ p, H2 p = none → Q (.ref p) (upd H2 p (.tup [.non, .str (nameOf bs)]))) H (fun v H' => ([v, .str ""] : List V).length ≤ sizeLine ∧ ∀ p, H' p = none → Q (.ref p) (upd H' p (.tup [v, .str ""])))
theorem told_gives {X : Cx} {x q r n : Str} {sg : Scope} {g RE : Addr} {cdg : Value} {k : Nat} {bg : List Stmt} (hB : ltB "call" "e" r n bg = true) (nd : NeDef X.K X.mg n) (hgr : sg.names.lookup r = some .globalImplicit) (hmr : X.mg r = some (.ref RE)) (hgn : sg.names.lookup n = some .globalImplicit)
    (hle : sg.names.lookup ("e" : Str) = some .local) (hdr : (r == ("__debug__" : Str)) = false) (hdn : (n == ("__debug__" : Str)) = false) : GivesN X ["call", "e"] x sg g cdg bg "call" q (k + 1) (TTold X RE) := by
  intro f c' s H Q tl hr act hc h
  unfold ltB at hB
  split at hB
  · simp only [Bool.and_eq_true, decide_eq_true_eq] at hB
    obtain ⟨⟨⟨⟨⟨k1, k2⟩, k3⟩, k4⟩, k5⟩, k6⟩ := hB
    subst k1 k2 k3 k4 k5 k6
    refine ⟨_, pss_one (L2N.ps_try_as (X := (gotX X ["call", "e"] x sg g cdg s H).nox) (n := ("e" : Str)) (c := .ref RE) (i := 1) (Wout := fun _ _ _ _ => False)
      (tb := fun W D σ H' => ∃ E : XK, (∀ cls d (τ : L2.St) H', τ.length = 2 → E cls d H' → W cls d τ H') ∧ tRet (tTup (tCons (fun τ HZ Q => τ[0]? = some (some (.ref f)) ∧ HZ c' = some (CodeO c' q) ∧ tl E HZ Q) (tCons (L2.tC (.str "")) tNil))) D σ H')
      (ts := fun a cls d => tRet (tTup (tCons (L2.tC .non) (tCons (fun σ H Q => σ[1]? = some (some (.ref a)) ∧ d = none ∧ (∃ D bs, cls = .ref D ∧ Named X D bs ∧ bs.length = 9 ∧ ∀ H', Same H H' → Q (.str (nameOf bs)) H')) tNil))))
      rfl rfl (by show (["call", "e"] : List Str).Nodup; decide) rfl hle ⟨hgr, hdr, .inl hmr⟩ takesN0 (fun W pn xe tk _ => ?_) (fun a oe cls d pn hz hf => ?_)), ?_⟩
    · refine ⟨fun pins s' σ H' D I h' => ?_⟩
      obtain ⟨E, hW, h1⟩ := h'
      exact (pss_one (ps_ret (pe_tup (pa_cons (act W pn xe E _ _ tk hW) (pa_cons pe_str pa_nil rfl) rfl)))).run pins s' σ H' D I h1
    · refine pss_one (ps_ret (pe_tup (pa_cons pe_non (pa_cons ?_ pa_nil rfl) rfl)))
      have hp := fun (p1 p2 pos : Pos) => pe_ne (X := (gotX X ["call", "e"] x sg g cdg s H).nox) (a := a) (oe := oe) (pn := pn) (k := k) (i := 1) (cls := cls) (d := d) (p1 := p1) (p2 := p2) (pos := pos) nd hgn ⟨hr.dp, hr.un⟩ rfl (.inl hle) hz hf hdn
      exact (hp _ _ _).imp fun σ H Q ⟨h0, hd, D, bs, h1, Nm, h2, h3⟩ => ⟨h0, hd, D, bs, h1, ⟨Nm.C, Nm.own, Nm.ve, Nm.mv, Nm.mi, Nm.mz⟩, h2, h3⟩
    · refine ⟨fun cls d H' => PySem.W.exmOne X.K cls (.ref RE) = some true ∧ d = none ∧ ∃ D bs, cls = .ref D ∧ Named X D bs ∧ bs.length = 9 ∧ ∀ H2, Same H' H2 → ∀ p, H2 p = none → Q (.ref p) (upd H2 p (.tup [.non, .str (nameOf bs)])), fun cls d τ H' hl ⟨h1, h2, h3⟩ => ⟨true, h1, fun _ a _ => ?_, fun z => by cases z⟩, ?_⟩
      · show tRet (tTup _) _ _ _
        refine ⟨?_, h2, ?_⟩
        · rw [List.getElem?_set, if_pos rfl, if_pos (by omega)]
        · obtain ⟨D, bs, e1, e2, e3, e4⟩ := h3
          exact ⟨D, bs, e1, e2, e3, fun H2 s2 => ⟨by show 2 ≤ _; rw [sizeLine_eq]; omega, e4 H2 s2⟩⟩
      · exact ⟨rfl, hc, h⟩
  · cases hB
/-- the def that tells what it calls gives -/
structure ToldDef (K : PySem.W.Frag) (mg : Str → Option Value) (x : Str) (RE : Addr) : Prop where
  ex : ∃ (oc cdv dV kV doc pm ct : Value) (g : Addr) (od an : Option Addr) (osl : Array (Option Value)) (params : Arguments) (bg : List Stmt) (sg : Scope) (r n : Str), mg x = some (.ref g) ∧ PySem.W.keepIn K (.ref g) = true ∧
    K.lookup g = some ⟨oc, od, .func (PySem.W.fnOf x x params bg sg dV kV doc pm an cdv ct), osl⟩ ∧ PySem.W.codeIn K cdv x = true ∧ L2.Binds K (PySem.W.fnOf x x params bg sg dV kV doc pm an cdv ct) ["call"] [] ∧ FnScope ["call", "e"] ["call"] sg ∧
    ltB "call" "e" r n bg = true ∧ NeDef K mg n ∧ sg.names.lookup r = some .globalImplicit ∧ mg r = some (.ref RE) ∧ sg.names.lookup n = some .globalImplicit ∧ sg.names.lookup ("e" : Str) = some .local ∧ (r == ("__debug__" : Str)) = false ∧ (n == ("__debug__" : Str)) = false
/-- the bag put out of sight, and among what is not to be reached -/
def Fx.hid (F : Fx) (σ : Slots) (e : SEnv) : Fx := { F with A0 := fun a => F.A0 a ∨ Bm σ e a }
theorem noBag_ownT {e : SEnv} {i : Nat} {ds : List D} (h : e[i]? = some (.own ds)) : (noBag e)[i]? = some (.own ds) := by
  unfold noBag
  rw [List.getElem?_map, h]; rfl
theorem hid_av {F : Fx} {σ : Slots} {e : SEnv} {a : Addr} : Av (F.hid σ e) σ (noBag e) a ↔ Av F σ e a := by
  constructor
  · rintro (h | ⟨i, h1, h2⟩)
    · exact h.elim .inl fun q => q.av
    · exact .inr ⟨i, .inr (noBag_own h1), h2⟩
  · rintro (h | ⟨i, h1, h2⟩)
    · exact .inl (.inl h)
    · rcases h1 with h1 | ⟨ds, h1⟩
      · exact .inl (.inr ⟨i, h1, h2⟩)
      · exact .inr ⟨i, .inr ⟨ds, noBag_ownT h1⟩, h2⟩
theorem hid_ab {F : Fx} {σ : Slots} {e : SEnv} {a : Addr} : Ab (F.hid σ e) σ (noBag e) a ↔ Ab F σ e a := by
  constructor
  · rintro (h | h)
    · exact h
    · exact (noBag_bm h).elim
  · exact fun h => .inl h
theorem hid_pr {F : Fx} {σ : Slots} {e : SEnv} {b : Bool} {a : Addr} : Pr (F.hid σ e) σ (noBag e) b a ↔ Pr F σ e b a := by
  cases b with
  | true => exact hid_av
  | false => exact hid_ab
theorem SI.hid {F : Fx} {σ : Slots} {H : Hp} {e : SEnv} {B : Bg} (I : SI F σ H e B) (hb : F.b0 = none) : SI (F.hid σ e) σ H (PD.noBag e) [] := by
  refine ⟨?_, I.ext, I.tabs, fun a h => ?_, fun i d h => ?_, fun i ds h => ?_, fun i h => absurd rfl (noBag_get h).1, fun i j a h1 h2 => I.inj i j a (.inr (noBag_own h1)) (.inr (noBag_own h2)), fun i j h => absurd rfl (noBag_get h).1, fun b h => ?_, fun p hp => (I.kp p hp).thru (.less fun a => hid_av.mp) (.less fun a => hid_av.mp), fun i kvs h => by
    have h := ((noBag_get h).2.resolve_left (fun z => by cases z))
    obtain ⟨h0, a, xs, e1, e2, e3, e4, e5, e6, e7⟩ := I.dic i kvs h
    exact ⟨h0, a, xs, e1, e2, e3, e4.less fun a => hid_av.mp, e5, e6, fun j kws q => e7 j kws ((noBag_get q).2.resolve_left (fun z => by cases z))⟩, fun i a fs h => by
    have h := ((noBag_get h).2.resolve_left (fun z => by cases z))
    obtain ⟨h0, e1, e2⟩ := I.ins i a fs h
    exact ⟨h0, e1, e2.less fun a => hid_av.mp⟩⟩
  · unfold PD.noBag; rw [List.length_map]; exact I.len
  · exact I.domA a (show Av F σ e a from h.elim .inl fun q => q.av)
  · rcases (noBag_get h).2 with z | z
    · cases z
    · obtain ⟨v, h1, h2⟩ := I.val i d z
      exact ⟨v, h1, h2.less fun a => hid_av.mp⟩
  · rcases (noBag_get h).2 with z | z
    · cases z
    · obtain ⟨h0, a, xs, h1, h2, h3, h4, h5, h6⟩ := I.own i ds z
      exact ⟨h0, a, xs, h1, h2, h3, h4.less fun a => hid_av.mp, h5, fun q => h6 (hid_ab.mp q)⟩
  · exact absurd (show F.b0 = some b from h) (by rw [hb]; simp)
theorem toldRule_ok {X : Cx} {F : Fx} {x : Str} {k : Nat} {RE c P : Addr} (hb0 : F.b0 = none) (hg : Gl X x) (hdb : (x == ("__debug__" : Str)) = false) (ed : ToldDef X.K X.mg x RE) (TB : LamX.TabB X.base X.mg c P) (hcode : X.env.code = .ref c) (hmT : (P, X.env.qual ++ "<lambda>") ∈ F.T)
    (hu : ∀ p ∈ F.T, p.1 = P → p.2 = X.env.qual ++ "<lambda>") (hr : Room (k + 2) X.A) (hen : EnOk X F RE) : LamRule X F x true k := by
  intro body scope lpos p pos m W L hb
  obtain ⟨oc, cdv, dV, kV, doc, pm, ct, g, od, an, osl, params, bg, sg, r, n, hm, hk, lk, hcg, hbn, Sg, hB, nd, hgr, hmr, hgn, hle, hdr, hdn⟩ := ed.ex
  have hva : Vis sg "call" := (Sg.par "call" (by simp)).elim .inl fun h => .inr (.inl h)
  refine (lamcall_N (T := F.T) (TT := TTold X RE) (a := "call") (Ng := ["call", "e"]) (k := k) (t := fun E σ H Q => ∃ A0, tD { F with A0 := A0 } (fun c H' => E (.ref (F.cls c)) none H') m σ H Q) hg hm hk lk hcg hbn Sg rfl hva (told_gives hB nd hgr hmr hgn hle hdr hdn) TB hcode hmT hu hr L rfl (fun _ _ _ _ _ => rfl) (fun A outer s H E f c' h => ⟨fun pins s1 σ H1 Q1 J ⟨A0, q⟩ => (hb A0 A outer s H E f c' h).run pins s1 σ H1 Q1 J q⟩) hdb (by decide) (by decide)).imp ?_
  rintro σ H Q ⟨e, B, I, hA⟩
  refine ⟨I.tabs, fun H1 eN T1 => ?_⟩
  have I1 := (I.step (I.lam eN T1 .refl)).hid hb0
  refine ⟨(F.hid σ e).A0, noBag e, [], I1, ?_⟩
  have hA : After F W σ H e (ev F.Γ (.ltold m) e B) fun d x H' => ∀ (v : V), Rs F (.ltold m) σ e H' d v → Q v H' := hA
  have hev : ev F.Γ (.ltold m) e B = (match ev F.Γ m (noBag e) [] with
    | .ok (d, _) => .ok (.tuple [d, .str Str.empty], B)
    | .err c => ofO B ((F.Γ.en c).map fun x => .tuple [.none, .str x])
    | .stuck => .stuck) := by
    simp only [ev]
    all_goals (cases ev F.Γ m (noBag e) [] <;> rfl)
  rw [hev] at hA
  cases q : ev F.Γ m (noBag e) [] with
  | stuck => rw [q] at hA; exact hA
  | ok pr =>
    obtain ⟨d, B'⟩ := pr
    rw [q] at hA
    have hA : ∀ H', Go F σ H e B H' → ∀ (v : V), Rs F (.ltold m) σ e H' (.tuple [d, .str Str.empty]) v → Q v H' := hA
    intro H' gg v hv
    refine ⟨by show 2 ≤ _; rw [sizeLine_eq]; omega, fun p hp => ?_⟩
    have g1 := I.lam eN T1 gg.ext
    have o := out_of (m := .ltold m) (b := sf F.O m) (I.step g1) (by simp only [sf]) (by simp only [ss]) (fun H2 g2 v h => hA H2 (g1.trans g2) v h)
    have dv : Dv F.K H' (Pr F σ e (sf F.O m)) d v := hv.dv.less fun a q => (hid_pr (F := F)).mpr q
    exact o.tup hp (by show 2 ≤ _; rw [sizeLine_eq]; omega) (.cons dv (.cons (.ofS _) .nil))
  | err c =>
    rw [q] at hA
    have hA : After F W σ H e (ofO B ((F.Γ.en c).map fun x => .tuple [.none, .str x])) fun d x H' => ∀ (v : V), Rs F (.ltold m) σ e H' d v → Q v H' := hA
    intro H' xx
    cases qe : F.Γ.en c with
    | none => rw [qe] at hA; exact (show False from hA).elim
    | some z =>
      rw [qe] at hA
      have hA : ∀ H', Go F σ H e B H' → ∀ (v : V), Rs F (.ltold m) σ e H' (.tuple [.none, .str z]) v → Q v H' := hA
      obtain ⟨h1, bs, h2, h3, h4⟩ := hen c z qe
      refine ⟨h1, rfl, _, bs, rfl, h2, h3, fun H2 s2 p hp => ?_⟩
      rw [h4]
      have g1 := I.lam eN T1 (xx.trans (.same s2))
      have o := out_of (m := .ltold m) (b := sf F.O m) (I.step g1) (by simp only [sf]) (by simp only [ss]) (fun H2 g2 v h => hA H2 (g1.trans g2) v h)
      exact o.tup hp (by show 2 ≤ _; rw [sizeLine_eq]; omega) (.cons .ofN (.cons (.ofS _) .nil))
end PD
set_option linter.all false
set_option maxRecDepth 100000
set_option maxHeartbeats 2000000
/-! A law's defs as a list, each known at every depth. -/
namespace PD
open PySem PySem.Spec PyProof.Rows L2 LamX HotX L2H
def scOk (N ps : List Str) (sc : Scope) : Bool := decide (sc.kind = .function) && !sc.isCoroutine && !sc.isGenerator && decide N.Nodup && decide (N.take ps.length = ps) && ps.all (fun x => decide (sc.names.lookup x = some .local) || decide (sc.names.lookup x = some .cell)) && sc.names.all fun y => !decide (y.2 = .free)
theorem scOk_ok {N ps : List Str} {sc : Scope} (h : scOk N ps sc = true) : FnScope N ps sc := by
  simp only [scOk, Bool.and_eq_true, Bool.or_eq_true, Bool.not_eq_true', decide_eq_true_eq, decide_eq_false_iff_not, List.all_eq_true] at h
  obtain ⟨⟨⟨⟨⟨⟨h1, h2⟩, h3⟩, h4⟩, h5⟩, h6⟩, h7⟩ := h
  exact ⟨h1, h2, h3, h4, h5, h6, h7⟩
/-- a def as a datum: its name, number, parameters, whether it draws from the bag, its text, what is known of it -/
structure DRow where
  x : Str
  id : Nat
  ps : List Str
  bag : Bool
  st : Stmt
  C : Ct
  /-- the def's own name, if it is another -/
  own : Option Str := none
def DRow.nm (r : DRow) : Str := r.own.getD r.x
def DRow.body (r : DRow) : MSs := (cSs 40 r.C (defBody r.st)).getD .nil
def DRow.fn (r : DRow) : Fn := ⟨r.ps.length, r.C.N.length, r.bag, r.C.new, r.body⟩
def DRow.ok (r : DRow) : Bool := scOk r.C.N r.ps (defScope r.st) && (cSs 40 r.C (defBody r.st)).isSome && r.C.lams.isEmpty && (!r.bag || (r.C.O.contains 0 && !r.C.sb && !r.C.new))
theorem DRow.read {r : DRow} (h : r.ok = true) : cSs 40 r.C (defBody r.st) = some r.fn.body := by
  simp only [DRow.ok, Bool.and_eq_true] at h
  obtain ⟨⟨⟨_, h⟩, _⟩, _⟩ := h
  obtain ⟨b, hb⟩ := Option.isSome_iff_exists.mp h
  show _ = some r.body
  unfold DRow.body
  rw [hb]; rfl
section
variable {U : Wd} {n : Nat} {r : DRow} {f : Addr} {fd : FuncData}
theorem row_p (kn : U.knows n r.C.fns) (fc : U.facts r.C.gcs r.C.excs r.C.blts) (Fd : FunD U.K r.nm r.nm (defArgs r.st) (defBody r.st) (defScope r.st) [] [] f fd) (hm : U.mg r.x = some (.ref f)) (hb : Binds U.K fd r.ps []) (ok : r.ok = true) (hsc : r.C.sc = defScope r.st) (hnat : U.Pg.nat r.id = none)
    (hfn : U.Pg.fn r.id = some r.fn) (hbag : r.bag = false) : U.has (n + 1) r.x r.id r.ps.length r.C.new := by
  have rd := r.read ok
  simp only [DRow.ok, Bool.and_eq_true] at ok
  obtain ⟨⟨⟨h1, _⟩, h3⟩, _⟩ := ok
  exact ⟨f, fd, r.ps, def_ok kn fc Fd (scOk_ok h1) hsc rd hnat hfn rfl rfl hbag (List.isEmpty_iff.mp h3), hm, Fd.kp, hb⟩
theorem row_b (kn : U.knows n r.C.fns) (fc : U.facts r.C.gcs r.C.excs r.C.blts) (Fd : FunD U.K r.nm r.nm (defArgs r.st) (defBody r.st) (defScope r.st) [] [] f fd) (hm : U.mg r.x = some (.ref f)) (hb : Binds U.K fd r.ps []) (ok : r.ok = true) (hsc : r.C.sc = defScope r.st)
    (hfn : U.Pg.fn r.id = some r.fn) (hbag : r.bag = true) : U.hasB (n + 1) r.x r.id r.ps.length := by
  have rd := r.read ok
  simp only [DRow.ok, Bool.and_eq_true, hbag, Bool.not_true, Bool.false_or, Bool.not_eq_true'] at ok
  obtain ⟨⟨⟨h1, _⟩, h3⟩, ⟨h4, h5⟩, h6⟩ := ok
  exact ⟨f, fd, r.ps, defB_ok kn fc Fd (scOk_ok h1) hsc rd hfn rfl rfl hbag (by simpa using h4) h5 h6 (List.isEmpty_iff.mp h3), hm, Fd.kp, hb⟩
theorem row_p0 {x : Str} {id np : Nat} {new : Bool} {ps : List Str} (hm : U.mg x = some (.ref f)) (hk : PySem.W.keepIn U.K (.ref f) = true) (hb : Binds U.K fd ps []) (hl : ps.length = np) : U.has 0 x id np new := by
  refine ⟨f, fd, ps, ⟨fun vs H Q E h => h.1.trans hl.symm, fun A outer s H args us vs Q E hr e0 hb r h => ?_⟩, hm, hk, hb⟩
  obtain ⟨_, A0, ds, _, _, _, h⟩ := h
  exact (show False from h).elim
theorem row_b0 {x : Str} {id np : Nat} {ps : List Str} (hm : U.mg x = some (.ref f)) (hk : PySem.W.keepIn U.K (.ref f) = true) (hb : Binds U.K fd ps []) (hl : ps.length = np) : U.hasB 0 x id np := by
  refine ⟨f, fd, ps, ⟨fun vs H Q E h => h.1.trans hl.symm, fun A outer s H args us vs Q E hr e0 hb r h => ?_⟩, hm, hk, hb⟩
  obtain ⟨_, A0, ds, b, B, us, _, _, _, _, _, _, h⟩ := h
  exact (show False from h).elim
/-- the entry of a def in the table -/
def DRow.ent (r : DRow) : Str × Nat × Nat × Bool × Bool := (r.x, r.id, r.ps.length, r.bag, r.C.new)
/-- where a def stands -/
structure DRow.At (U : Wd) (r : DRow) : Prop where
  ex : ∃ f fd, FunD U.K r.nm r.nm (defArgs r.st) (defBody r.st) (defScope r.st) [] [] f fd ∧ U.mg r.x = some (.ref f) ∧ Binds U.K fd r.ps []
  ok : r.ok = true
  sc : r.C.sc = defScope r.st
  nat : U.Pg.nat r.id = none
  fn : U.Pg.fn r.id = some r.fn
theorem lookup_memE : ∀ {l : List (Str × Nat × Nat × Bool × Bool)} {x : Str} {v : Nat × Nat × Bool × Bool}, l.lookup x = some v → (x, v) ∈ l
  | [], _, _, h => by cases h
  | (y, w) :: l, x, v, h => by
    rw [List.lookup_cons] at h
    split at h
    · rename_i e
      cases h
      rw [eq_of_beq e]
      exact List.mem_cons_self
    · exact List.mem_cons_of_mem _ (lookup_memE h)
/-- every def of the list is known at every depth -/
theorem knows_all {rs : List DRow} {fns : Fns} {gcs excs : List (Str × Nat)} {blts : List Str} (hf : fns = rs.map DRow.ent) (hC : ∀ r ∈ rs, r.C.fns = fns ∧ r.C.gcs = gcs ∧ r.C.excs = excs ∧ r.C.blts = blts) (fc : U.facts gcs excs blts) (at_ : ∀ r ∈ rs, r.At U) : ∀ n, U.knows n fns
  | 0 => by
    refine ⟨fun x f np new h => ?_, fun x f np new h => ?_⟩
    · rw [hf] at h
      obtain ⟨r, hr, e⟩ := List.mem_map.mp (lookup_memE h)
      obtain ⟨f', fd, Fd, hm, hb⟩ := (at_ r hr).ex
      obtain ⟨e1, e⟩ := Prod.mk.inj e
      obtain ⟨e2, e⟩ := Prod.mk.inj e
      obtain ⟨e3, e⟩ := Prod.mk.inj e
      subst e1 e2 e3
      exact row_p0 hm Fd.kp hb rfl
    · rw [hf] at h
      obtain ⟨r, hr, e⟩ := List.mem_map.mp (lookup_memE h)
      obtain ⟨f', fd, Fd, hm, hb⟩ := (at_ r hr).ex
      obtain ⟨e1, e⟩ := Prod.mk.inj e
      obtain ⟨e2, e⟩ := Prod.mk.inj e
      obtain ⟨e3, e⟩ := Prod.mk.inj e
      subst e1 e2 e3
      exact row_b0 hm Fd.kp hb rfl
  | n + 1 => by
    have ih := knows_all hf hC fc at_ n
    refine ⟨fun x f np new h => ?_, fun x f np new h => ?_⟩
    · rw [hf] at h
      obtain ⟨r, hr, e⟩ := List.mem_map.mp (lookup_memE h)
      obtain ⟨f', fd, Fd, hm, hb⟩ := (at_ r hr).ex
      obtain ⟨h1, h2, h3, h4⟩ := hC r hr
      obtain ⟨e1, e⟩ := Prod.mk.inj e
      obtain ⟨e2, e⟩ := Prod.mk.inj e
      obtain ⟨e3, e⟩ := Prod.mk.inj e
      obtain ⟨e4, e5⟩ := Prod.mk.inj e
      subst e1 e2 e3 e5
      exact row_p (by rw [h1]; exact ih) (by rw [h2, h3, h4]; exact fc) Fd hm hb (at_ r hr).ok (at_ r hr).sc (at_ r hr).nat (at_ r hr).fn e4
    · rw [hf] at h
      obtain ⟨r, hr, e⟩ := List.mem_map.mp (lookup_memE h)
      obtain ⟨f', fd, Fd, hm, hb⟩ := (at_ r hr).ex
      obtain ⟨h1, h2, h3, h4⟩ := hC r hr
      obtain ⟨e1, e⟩ := Prod.mk.inj e
      obtain ⟨e2, e⟩ := Prod.mk.inj e
      obtain ⟨e3, e⟩ := Prod.mk.inj e
      obtain ⟨e4, e5⟩ := Prod.mk.inj e
      subst e1 e2 e3
      exact row_b (by rw [h1]; exact ih) (by rw [h2, h3, h4]; exact fc) Fd hm hb (at_ r hr).ok (at_ r hr).sc (at_ r hr).fn e4
end
end PD
set_option linter.all false
set_option maxRecDepth 100000
set_option maxHeartbeats 2000000
/-! From what the head says to the law's def. -/
namespace PD
open PySem PySem.Spec PyProof.Rows L2 LamX HotX L2H
/-- what isinstance sees of an error class -/
def namedB (K : PySem.W.Frag) (D : Str) (bs : List Bool) : Bool :=
  decide (PySem.W.findIn K (.ref (He.ga K D)) "__getattribute__" = some (some (.builtin "BaseException.__getattribute__"))) && decide (PySem.W.findIn K (.ref (He.ga K D)) "__getattr__" = some none) && decide (PySem.W.subIn K (.ref (He.ga K D)) (.type "BaseException") = some true) && PySem.W.hasDictIn K (He.ga K D) &&
  decide (PySem.W.findIn K (.ref (He.ga K D)) "__class__" = some (some (.builtin "object.__class__"))) && decide (PySem.W.specialIn K (.builtin "object.__class__") "__get__" = some (some (.builtin "getset_descriptor.__get__"))) && decide (PySem.W.takesIn K (.builtin "object.__class__") = some true) &&
  decide (PySem.W.mroIn K (He.ga K D) (.type "object") = some true) && decide (bs.length = 9) && (List.range 8).all (fun i => decide (PySem.W.kitOne K (.ref (He.ga K D)) (.ref (He.ga K (ownCls.getD i Str.empty))) = bs[i]?)) && decide (PySem.W.kitOne K (.ref (He.ga K D)) (.type "ValueError") = bs[8]?)
theorem namedB_ok {X : Cx} {D : Str} {bs : List Bool} (h : namedB X.K D bs = true) (ho : ∀ c ∈ ownCls, X.mg c = some (.ref (He.ga X.K c))) (mv : X.mg "ValueError" = none) (mi : X.mg "isinstance" = none) (mz : X.mg "zip" = none) : Named X (He.ga X.K D) bs ∧ bs.length = 9 := by
  simp only [namedB, Bool.and_eq_true, decide_eq_true_eq, List.all_eq_true, List.mem_range] at h
  obtain ⟨⟨⟨⟨⟨⟨⟨⟨⟨⟨h1, h2⟩, h3⟩, h4⟩, h5⟩, h6⟩, h7⟩, h8⟩, h9⟩, h10⟩, h11⟩ := h
  refine ⟨⟨⟨h1, h2, h3, h4, h5, h6, h7, h8⟩, fun i c hc => ?_, ?_, mv, mi, mz⟩, h9⟩
  · have hi : i < 8 := (List.getElem?_eq_some_iff.mp hc).1
    have k := h10 i hi
    rw [List.getD_eq_getElem?_getD, hc] at k
    have hb : i < bs.length := by omega
    exact ⟨_, bs[i], ho c (List.mem_of_getElem? hc), List.getElem?_eq_getElem hb, k.trans (List.getElem?_eq_getElem hb)⟩
  · have hb : 8 < bs.length := by omega
    exact ⟨bs[8], List.getElem?_eq_getElem hb, h11.trans (List.getElem?_eq_getElem hb)⟩
def exChk (K : PySem.W.Frag) (ens : List (Str × List Bool)) : Bool := ens.all fun p => namedB K p.1 p.2 && decide (PySem.W.exmOne K (.ref (He.ga K p.1)) (.ref (He.ga K "RainError")) = some true)
def enOf (ens : List (Str × List Bool)) (c : Nat) : Option Str := (ens[c]?).map fun p => nameOf p.2
def clsOf (K : PySem.W.Frag) (ens : List (Str × List Bool)) (c : Nat) : Addr := He.ga K (((ens[c]?).map (·.1)).getD Str.empty)
theorem en_ok {X : Cx} {F : Fx} {ens : List (Str × List Bool)} (h : exChk X.K ens = true) (hen : F.Γ.en = enOf ens) (hcl : F.cls = clsOf X.K ens) (ho : ∀ c ∈ ownCls, X.mg c = some (.ref (He.ga X.K c))) (mv : X.mg "ValueError" = none) (mi : X.mg "isinstance" = none) (mz : X.mg "zip" = none) : EnOk X F (He.ga X.K "RainError") := by
  intro c z hz
  rw [hen] at hz
  obtain ⟨p, hp, rfl⟩ := Option.map_eq_some_iff.mp hz
  have k := List.all_eq_true.mp h p (List.mem_of_getElem? hp)
  simp only [Bool.and_eq_true, decide_eq_true_eq] at k
  have e : F.cls c = He.ga X.K p.1 := by rw [hcl]; unfold clsOf; rw [hp]; rfl
  rw [e]
  obtain ⟨k1, k2⟩ := namedB_ok k.1 ho mv mi mz
  exact ⟨k.2, p.2, k1, k2, rfl⟩
theorem facts_of {U : Wd} {gcs excs : List (Str × Nat)} {blts : List Str} (hg : ∀ p ∈ gcs, ∃ v u, U.mg p.1 = some u ∧ RelV v u ∧ ∀ H A, Dv U.K H A (U.Pg.gc p.2) v) (hb : ∀ x ∈ blts, U.mg x = none)
    (he : ∀ p ∈ excs, (He.Fa.exc p.1).ok U.K = true ∧ U.mg p.1 = some (.ref (He.ga U.K p.1)) ∧ U.cls p.2 = He.ga U.K p.1) : U.facts gcs excs blts := by
  have lm : ∀ {l : List (Str × Nat)} {x : Str} {n : Nat}, l.lookup x = some n → (x, n) ∈ l := fun h => mem_of_lk h
  refine ⟨fun x n h => hg _ (lm h), fun x h => hb x (by simpa using h), fun x n h => ?_⟩
  obtain ⟨h1, h2, h3⟩ := he _ (lm h)
  obtain ⟨k1, k2, k3, k4⟩ := He.exc_ok h1
  exact ⟨He.ga U.K x, _, _, _, _, PySem.F.excBase_ValueError, k1, h2, k2, ⟨k3, k4⟩, h3⟩
/-- a def's datum for the head -/
def mkD (x : Str) (st : Stmt) : He.DefD := ⟨(x, none), x, x, defArgs st, defBody st, defScope st, [], []⟩
/-- the same, the def's own name being another -/
def mkA (x nm : Str) (st : Stmt) : He.DefD := ⟨(x, none), nm, nm, defArgs st, defBody st, defScope st, [], []⟩
/-- its arguments are bound one by one -/
def BindE (x : Str) (st : Stmt) (ps : List Str) : Prop := ∀ (kV doc pm : Value) (an : Option Addr) (cdv ct : Value) (us : List Value), us.length = ps.length → bindArgs (PySem.W.fnOf x x (defArgs st) (defBody st) (defScope st) .none kV doc pm an cdv ct) ⟨us, []⟩ = pure (ps.zip us)
section
variable {fa : List He.Fa} {fn : List He.DefD} {K : PySem.W.Frag} {h : Heap} {mg : Str → Option Value}
theorem def_at (X : K.In h) (G : h.Ns mainGlobals mg) (c : He.SaysD fa fn K) {x : Str} {st : Stmt} {ps : List Str} (hm : mkD x st ∈ fn) (hg : He.Fa.glo x ∈ fa) (hb : BindE x st ps) : ∃ fd, FunD K x x (defArgs st) (defBody st) (defScope st) [] [] (He.ga K x) fd ∧ mg x = some (.ref (He.ga K x)) ∧ Binds K fd ps [] := by
  obtain ⟨fd, F⟩ := He.SaysD.defs c hm
  have F : FunD K x x (defArgs st) (defBody st) (defScope st) [] [] (He.ga K x) fd := F
  exact ⟨fd, F, He.glo_ok X G (He.SaysD.facts c hg), FunD.bindsN F hb⟩
theorem def_atA (X : K.In h) (G : h.Ns mainGlobals mg) (c : He.SaysD fa fn K) {x nm : Str} {st : Stmt} {ps : List Str} (hm : mkA x nm st ∈ fn) (hg : He.Fa.glo x ∈ fa) (hb : BindE nm st ps) : ∃ fd, FunD K nm nm (defArgs st) (defBody st) (defScope st) [] [] (He.ga K x) fd ∧ mg x = some (.ref (He.ga K x)) ∧ Binds K fd ps [] := by
  obtain ⟨fd, F⟩ := He.SaysD.defs c hm
  have F : FunD K nm nm (defArgs st) (defBody st) (defScope st) [] [] (He.ga K x) fd := F
  exact ⟨fd, F, He.glo_ok X G (He.SaysD.facts c hg), FunD.bindsN F hb⟩
/-- the def that names the error -/
theorem neDef_of (X : K.In h) (G : h.Ns mainGlobals mg) (c : He.SaysD fa fn K) {x : Str} {st : Stmt} {sc2 : Scope} (hm : mkD x st ∈ fn) (hg : He.Fa.glo x ∈ fa) (hb : BindE x st ["e"]) (hs : scOk neN ["e"] (defScope st) = true) (hB : neB (defBody st) = some sc2) (hS : neSc (defScope st) sc2 = true) : NeDef K mg x := by
  obtain ⟨fd, F, hmg, hbn⟩ := def_at X G c hm hg hb
  obtain ⟨oc, od, dV, kV, doc, pm, an, cdv, ct, osl, rfl, lk, hcd, _, _⟩ := F.ex
  exact ⟨_, oc, cdv, dV, kV, doc, pm, ct, _, od, an, osl, _, _, _, sc2, rfl, hmg, F.kp, lk, hcd, hbn, scOk_ok hs, hB, hS⟩
theorem errDef_of (X : K.In h) (G : h.Ns mainGlobals mg) (c : He.SaysD fa fn K) {x r n : Str} {st : Stmt} (hm : mkD x st ∈ fn) (hg : He.Fa.glo x ∈ fa) (hb : BindE x st ["call"]) (hs : scOk ["call", "e"] ["call"] (defScope st) = true) (hB : leB "call" "e" r n (defBody st) = true) (nd : NeDef K mg n)
    (hr : (defScope st).names.lookup r = some .globalImplicit) (hmr : He.Fa.glo r ∈ fa) (hn : (defScope st).names.lookup n = some .globalImplicit) (hl : (defScope st).names.lookup ("e" : Str) = some .local) (hdr : (r == ("__debug__" : Str)) = false) (hdn : (n == ("__debug__" : Str)) = false) : ErrDef K mg x (He.ga K r) := by
  obtain ⟨fd, F, hmg, hbn⟩ := def_at X G c hm hg hb
  obtain ⟨oc, od, dV, kV, doc, pm, an, cdv, ct, osl, rfl, lk, hcd, _, _⟩ := F.ex
  exact ⟨oc, cdv, dV, kV, doc, pm, ct, _, od, an, osl, _, _, _, r, n, hmg, F.kp, lk, hcd, hbn, scOk_ok hs, hB, nd, hr, He.glo_ok X G (He.SaysD.facts c hmr), hn, hl, hdr, hdn⟩
theorem toldDef_of (X : K.In h) (G : h.Ns mainGlobals mg) (c : He.SaysD fa fn K) {x r n : Str} {st : Stmt} (hm : mkD x st ∈ fn) (hg : He.Fa.glo x ∈ fa) (hb : BindE x st ["call"]) (hs : scOk ["call", "e"] ["call"] (defScope st) = true) (hB : ltB "call" "e" r n (defBody st) = true) (nd : NeDef K mg n)
    (hr : (defScope st).names.lookup r = some .globalImplicit) (hmr : He.Fa.glo r ∈ fa) (hn : (defScope st).names.lookup n = some .globalImplicit) (hl : (defScope st).names.lookup ("e" : Str) = some .local) (hdr : (r == ("__debug__" : Str)) = false) (hdn : (n == ("__debug__" : Str)) = false) : ToldDef K mg x (He.ga K r) := by
  obtain ⟨fd, F, hmg, hbn⟩ := def_at X G c hm hg hb
  obtain ⟨oc, od, dV, kV, doc, pm, an, cdv, ct, osl, rfl, lk, hcd, _, _⟩ := F.ex
  exact ⟨oc, cdv, dV, kV, doc, pm, ct, _, od, an, osl, _, _, _, r, n, hmg, F.kp, lk, hcd, hbn, scOk_ok hs, hB, nd, hr, He.glo_ok X G (He.SaysD.facts c hmr), hn, hl, hdr, hdn⟩
end
/-- the tables that a law's lambdas are made through -/
def lawT (K : PySem.W.Frag) (x : Str) (st : Stmt) : List (Addr × Str) := [((He.cT K (x, none)).2, (envOfC x (defScope st) 0 0 .none).qual ++ "<lambda>")]
section
variable {U : Wd} {n : Nat} {fd : FuncData}
/-- the law's def, its lambdas told of their errors' names -/
theorem law_ok {r : DRow} {ens : List (Str × List Bool)} (kn : U.knows n r.C.fns) (fc : U.facts r.C.gcs r.C.excs r.C.blts) (F : FunD U.K r.x r.x (defArgs r.st) (defBody r.st) (defScope r.st) [] [] (He.ga U.K r.x) fd) (hsc : r.C.sc = defScope r.st) (hs : scOk r.C.N r.ps (defScope r.st) = true) (hc : (cSs 40 r.C (defBody r.st)).isSome = true)
    (hnat : U.Pg.nat r.id = none) (hfn : U.Pg.fn r.id = some r.fn) (hbag : r.bag = false) (hT : U.T = lawT U.K r.x r.st) (hl : ∀ x lb, r.C.lams.lookup x = some lb → x = "_law_error" ∧ lb = false) (hgl : (defScope r.st).names.lookup ("_law_error" : Str) = some .globalImplicit) (ed : ErrDef U.K U.mg "_law_error" (He.ga U.K "RainError"))
    (TB : LamX.TabB U.base U.mg (He.cT U.K (r.x, none)).1 (He.cT U.K (r.x, none)).2) (hx : exChk U.K ens = true) (hen : U.Pg.en = enOf ens) (hcl : U.cls = clsOf U.K ens) (ho : ∀ c ∈ ownCls, U.mg c = some (.ref (He.ga U.K c))) (mv : U.mg "ValueError" = none) (mi : U.mg "isinstance" = none) (mz : U.mg "zip" = none) :
    FnOk U.P U.w U.K U.mg U.base (L2N.CX U.P U.w) (3 * (n + 1)) (He.ga U.K r.x) fd r.ps (spP U.T U.cls (callP U.Pg (n + 1)) r.C.new U.K r.id r.ps.length) := by
  obtain ⟨oc, od, dV, kV, doc, pm, an, cdv, ct, osl, rfl, lk, hcd, _, _⟩ := F.ex
  obtain ⟨c, rfl⟩ := He.codeIn_ref hcd
  have hcT : (He.cT U.K (r.x, none)).1 = c := He.codeOf_eq (p := (r.x, none)) lk rfl
  have rd : cSs 40 r.C (defBody r.st) = some r.fn.body := by
    obtain ⟨b, hb⟩ := Option.isSome_iff_exists.mp hc
    show _ = some r.body
    unfold DRow.body
    rw [hb]; rfl
  refine fn_of (k := 3 * n + 2) lk hcd (scOk_ok hs) (fun vs H Q E h => h.1) fun A outer s H vs Q E hr h => ?_
  refine def_body kn fc (scOk_ok hs) hsc rd hnat hfn rfl rfl hbag (hr.mono (by omega)) (fun x lb hxl A0 kp => ?_) h
  obtain ⟨e, e2⟩ := hl x lb hxl
  subst e e2
  exact lamRule_ok (F := { U.fx n H none A0 r.C.O with kp := kp }) (c := c) (P := (He.cT U.K (r.x, none)).2) rfl hgl (by decide) ed (by rw [hcT] at TB; exact TB) rfl (by show _ ∈ U.T; rw [hT]; exact List.mem_singleton.mpr rfl) (fun p hp _ => by
    have hp : p ∈ U.T := hp
    rw [hT] at hp
    rw [List.mem_singleton.mp hp]
    rfl) hr (en_ok hx hen hcl ho mv mi mz)
/-- the same, its lambdas handed to the def that tells what they give -/
theorem law_okT {r : DRow} {ens : List (Str × List Bool)} (kn : U.knows n r.C.fns) (fc : U.facts r.C.gcs r.C.excs r.C.blts) (F : FunD U.K r.x r.x (defArgs r.st) (defBody r.st) (defScope r.st) [] [] (He.ga U.K r.x) fd) (hsc : r.C.sc = defScope r.st) (hs : scOk r.C.N r.ps (defScope r.st) = true) (hc : (cSs 40 r.C (defBody r.st)).isSome = true)
    (hnat : U.Pg.nat r.id = none) (hfn : U.Pg.fn r.id = some r.fn) (hbag : r.bag = false) (hT : U.T = lawT U.K r.x r.st) (hl : ∀ x lb, r.C.lams.lookup x = some lb → x = "_law_told" ∧ lb = true) (hgl : (defScope r.st).names.lookup ("_law_told" : Str) = some .globalImplicit) (ed : ToldDef U.K U.mg "_law_told" (He.ga U.K "RainError"))
    (TB : LamX.TabB U.base U.mg (He.cT U.K (r.x, none)).1 (He.cT U.K (r.x, none)).2) (hx : exChk U.K ens = true) (hen : U.Pg.en = enOf ens) (hcl : U.cls = clsOf U.K ens) (ho : ∀ c ∈ ownCls, U.mg c = some (.ref (He.ga U.K c))) (mv : U.mg "ValueError" = none) (mi : U.mg "isinstance" = none) (mz : U.mg "zip" = none) :
    FnOk U.P U.w U.K U.mg U.base (L2N.CX U.P U.w) (3 * (n + 1)) (He.ga U.K r.x) fd r.ps (spP U.T U.cls (callP U.Pg (n + 1)) r.C.new U.K r.id r.ps.length) := by
  obtain ⟨oc, od, dV, kV, doc, pm, an, cdv, ct, osl, rfl, lk, hcd, _, _⟩ := F.ex
  obtain ⟨c, rfl⟩ := He.codeIn_ref hcd
  have hcT : (He.cT U.K (r.x, none)).1 = c := He.codeOf_eq (p := (r.x, none)) lk rfl
  have rd : cSs 40 r.C (defBody r.st) = some r.fn.body := by
    obtain ⟨b, hb⟩ := Option.isSome_iff_exists.mp hc
    show _ = some r.body
    unfold DRow.body
    rw [hb]; rfl
  refine fn_of (k := 3 * n + 2) lk hcd (scOk_ok hs) (fun vs H Q E h => h.1) fun A outer s H vs Q E hr h => ?_
  refine def_body kn fc (scOk_ok hs) hsc rd hnat hfn rfl rfl hbag (hr.mono (by omega)) (fun x lb hxl A0 kp => ?_) h
  obtain ⟨e, e2⟩ := hl x lb hxl
  subst e e2
  exact toldRule_ok (F := { U.fx n H none A0 r.C.O with kp := kp }) (c := c) (P := (He.cT U.K (r.x, none)).2) rfl hgl (by decide) ed (by rw [hcT] at TB; exact TB) rfl (by show _ ∈ U.T; rw [hT]; exact List.mem_singleton.mpr rfl) (fun p hp _ => by
    have hp : p ∈ U.T := hp
    rw [hT] at hp
    rw [List.mem_singleton.mp hp]
    rfl) hr (en_ok hx hen hcl ho mv mi mz)
/-- a law's def without lambdas -/
theorem law_okN {r : DRow} (kn : U.knows n r.C.fns) (fc : U.facts r.C.gcs r.C.excs r.C.blts) {f : Addr} (F : FunD U.K r.x r.x (defArgs r.st) (defBody r.st) (defScope r.st) [] [] f fd) (hsc : r.C.sc = defScope r.st) (hs : scOk r.C.N r.ps (defScope r.st) = true) (hc : (cSs 40 r.C (defBody r.st)).isSome = true)
    (hnat : U.Pg.nat r.id = none) (hfn : U.Pg.fn r.id = some r.fn) (hbag : r.bag = false) (hl : r.C.lams = []) : FnOk U.P U.w U.K U.mg U.base (L2N.CX U.P U.w) (3 * (n + 1)) f fd r.ps (spP U.T U.cls (callP U.Pg (n + 1)) r.C.new U.K r.id r.ps.length) := by
  have rd : cSs 40 r.C (defBody r.st) = some r.fn.body := by
    obtain ⟨b, hb⟩ := Option.isSome_iff_exists.mp hc
    show _ = some r.body
    unfold DRow.body
    rw [hb]; rfl
  exact def_ok kn fc F (scOk_ok hs) hsc rd hnat hfn rfl rfl hbag hl
theorem ints_dv {K : PySem.W.Frag} {H : Hp} {A : Addr → Prop} : ∀ ns : List Int, DvAll K H A (ns.map PyData.int) (ns.map V.int)
  | [] => rfl
  | i :: ns => ⟨.int i, ns.map V.int, rfl, rfl, ints_dv ns⟩
/-- what the law's def gives, from what the evaluator says of it -/
theorem sp_law {id : Nat} {H : Hp} {a : Addr} {ns : List Int} {T : List (Addr × Str)} (hp : callP U.Pg (n + 1) id [.list (ns.map PyData.int)] = .ok (.bool true)) (hT : ∀ p ∈ T, H p.1 = some (.tbl #[])) (hS : SqL U.K H a (ns.map V.int)) (hl : ns.length ≤ sizeLine) :
    spP T U.cls (callP U.Pg (n + 1)) false U.K id 1 [.ref a] H (fun v _ => v = .bl true) fun _ _ _ => False := by
  refine ⟨rfl, fun _ => False, [.list (ns.map PyData.int)], fun a h => h.elim, fun p hp => TabS.nil (hT p hp), ?_, ?_⟩
  · exact ⟨.ref a, [], rfl, ⟨a, ns.map V.int, rfl, Lq.mk hS fun z => z, by rw [List.length_map]; exact hl, ints_dv ns⟩, rfl⟩
  · rw [hp]
    intro v H' _ hv _
    exact hv
end
end PD
set_option linter.all false
set_option maxRecDepth 100000
set_option maxHeartbeats 1000000
/-! Operators, subscripts, len, in, bool of instances of own classes. -/
namespace PySem.W
open PySem PySem.Calls PyProof.Rows
section
variable {prog : Program} {w : World} {A : Around} {E : Value → Shared → Prop} {s : Shared} {K : Frag} {x C L f : Addr} {h₀ : Heap} {m : Str → Option Value} {ox : Obj} {od : Option Obj} {nm T : String}
/-- an own binary operator, the right side being of a built-in class (turned from the kit's rule for a value whose class is plain) -/
theorem own_bin {op : Operator} {b : Value} {fo ro rc : Option Value} {Q : Value → Shared → Prop} (F : Fr h₀ L s.heap m) (X₀ : K.In h₀) (I : InstAt s.heap x ox C od) (hb : Looks (model prog w) s.heap (typeOf b) (.type T)) (hc : selfFirst K C = true)
    (hs : findIn K (.ref C) (PySem.dunder op.info.2) = some (some (.ref f))) (hf : isFn K (.ref f) = true) (hr : findIn K (.ref C) (dunderR op.info.2) = some rc) (hp : rc = none ∨ ∃ g : Addr, rc = some (.ref g))
    (h1 : findIn K (.type T) (PySem.dunder op.info.2) = some fo) (h2 : findIn K (.type T) (dunderR op.info.2) = some ro) (hsub : subIn K (.type T) (.ref C) = some false)
    (h : wpAny (model prog w) A (call (.ref f) [.ref x, b]) (CmpBack Q) E s) : wpAny (model prog w) A (binaryOp op (.ref x) b) Q E s := by
  have X := X₀.keeps F.keep
  obtain ⟨cd, rest, hcd, hm⟩ := ksp_first hc
  rcases hi : op.info with ⟨sym, nm'⟩
  rw [hi] at hs hr h1 h2
  dsimp only at hs hr h1 h2
  have one := ksp_try X I hs hf h
  obtain ⟨hh, g, d, tt, os⟩ := s
  have L1 : Looks (model prog w) hh (typeOf (.ref x)) (.ref C) := I.type
  have L2 : Looks (model prog w) hh (typeOf b) (.type T) := hb
  have L3 : Looks (model prog w) hh (fillsNumberSlot (.ref C) nm') true := fills_K X hcd hm hs
  have L4 : Looks (model prog w) hh (fillsNumberSlot (.type T) nm') ((fo.isSome && !isSeqSlot fo) || (ro.isSome && !isSeqSlot ro)) := ksp_fillsT X h1 h2
  have L5 : Looks (model prog w) hh (isSubtype (.type T) (.ref C)) false := looks_subIn X hsub
  have L6 : Looks (model prog w) hh (numberSlotInPython (.ref C) nm') true := ksp_inPy X hs hr hp
  have L7 : Looks (model prog w) hh (numberSlotInPython (.type T) nm') false := Looks.of_pure rfl
  have L8 : Looks (model prog w) hh (typeLookup (.type T) (dunderR nm')) ro := looks_findIn X h2
  generalize ((fo.isSome && !isSeqSlot fo) || (ro.isSome && !isSeqSlot ro)) = right at L4
  have hne : (Value.ref C == Value.type T) = false := Bool.eq_false_iff.mpr fun q => by cases beq_iff_eq.mp q
  simp only [binaryOp, hi]
  refine wpAny_holding (wpAny_bind ?_)
  unfold binaryOp1
  refine wpAny_bind (L1.at (wpAny_bind (L2.at (wpAny_bind (L3.at ?_)))))
  simp only [hne, Bool.false_eq_true, if_false]
  cases right with
  | false =>
    ksp_lk
    refine wpAny_mono one (fun r s' hr' => ?_) fun _ _ e => e
    obtain ⟨v, rfl, hq⟩ := hr'
    ksp_lk
    exact hq
  | true =>
    ksp_lk
    refine wpAny_mono one (fun r s' hr' => ?_) fun _ _ e => e
    obtain ⟨v, rfl, hq⟩ := hr'
    ksp_lk
    exact hq
end
end PySem.W
namespace Own
open PySem PySem.Spec PyProof.Rows L2
/-- bool(x), by the truth of x -/
theorem bool_in {prog : Program} {w : World} {x : Value} : MeetsIn prog w (Builtin.«bool.__new__» ⟨[.type "bool", x], []⟩) (fun A R s => wpAny (model prog w) A.in1 (truthy x) (fun b s' => R (.ok (.ret (.bool b))) s') (fun e s' => R (.error e) s') s) :=
  .of_wp fun A R s hs => by
    have f1 := F.conv_sub_bool
    obtain ⟨hp, g, d, tk, os⟩ := s
    unfold Builtin.«bool.__new__»
    repeat (any_goals (first | assumption | wp_step))
    exact wpAny_mono hs (fun b s' hb => wpAny_pure ⟨_, rfl, hb⟩) fun _ _ e => e
theorem call_bool_any {prog : Program} {w : World} {A : Around} {E : Value → Shared → Prop} {s : Shared} {x : Value} {Q : Value → Shared → Prop} (h : wpAny (model prog w) A.in1.in1 (truthy x) (fun b s' => Q (.bool b) s') E s) : wpAny (model prog w) A (call (.type "bool") [x]) Q E s :=
  callType_newIn F.called_bool F.newNe_bool (F.typeCall_bool_1 x) (F.newCall_bool_1 x) (fun obj => F.args_object_init_2 obj x) F.entry_bool_new bool_in (wpAny_mono h (fun b s' hb => ⟨rfl, hb⟩) fun _ _ e => e)
/-- an own method of a class, by its name -/
structure M (K : PySem.W.Frag) (C : Addr) (m : Str) (g : Addr) : Prop where
  at_ : PySem.W.findIn K (.ref C) m = some (some (.ref g))
  fn : PySem.W.isFn K (.ref g) = true
  fi : PySem.W.fnIn K g = true
section
variable {X : Cx} {CX : CXT} {C g : Addr} {fd : FuncData} {ps : List Str} {k : Nat} {sp : Sp} {E : XK} {pins : List (Addr × Obj)} {σ : L2.St} {H : Hp} {s : Shared} {Q : VK} {us : List Value} {vs : List V} {A : Around}
theorem run_at (F : FnOk X.prog X.w X.K X.mg X.base CX k g fd ps sp) (hr : Room k A) (fr : A.frames = X.A.frames) (hb : Binds X.K fd ps []) (hx : Passes CX X E) (I : Inv X pins σ H s) (r : Vals vs us) (h : sp vs H Q E) : wpAny (model X.prog X.w) A (call (.ref g) us) (EP X pins σ Q) X.xe s := by
  have e0 : Env0 X.prog X.w X.K X.mg X.base A X.stack s H := by
    have e := I.env0
    exact ⟨by rw [fr]; exact e.frames, e.mod, e.bs, e.bsz, e.funs, e.frf, e.hok, e.bare⟩
  have hl := F.len _ _ _ _ h
  refine wpAny_call (codeAny_mono (F.run A X.stack s H ⟨us, []⟩ us vs Q E hr e0 (by
    have := hb s us I.kIn (by rw [List.append_nil, ← r.length]; exact hl)
    rwa [List.append_nil] at this) r h) fun r s' hq => ?_)
  cases r with
  | error e => exact hx pins σ H s e s' I hq
  | ok fl =>
    cases fl with
    | ret w => exact I.after hq
    | next => exact False.elim hq
    | brk => exact False.elim hq
    | cont => exact False.elim hq
theorem vals1r (p : Addr) : Vals [V.ref p] [Value.ref p] := .cons rfl .nil
theorem vals2 (p : Addr) {y : V} {u : Value} (ry : RelV y u) : Vals [V.ref p, y] [Value.ref p, u] := .cons rfl (.cons ry .nil)
theorem inst (I : Inv X pins σ H s) {a dx : Addr} {fs : List (Str × V)} (h : H a = some (.ins C dx fs)) : ∃ ox od, PySem.W.InstAt s.heap a ox C od ∧ ox.data = .plain := StX.insC_at I (.inr ⟨dx, fs, h⟩)
/-- x[i] -/
theorem pe_ixO {a b : Expr} {pos : Pos} {ta tb : TE} (m : M X.K C "__getitem__" g) (F : FnOk X.prog X.w X.K X.mg X.base CX k g fd ps sp) (hr : Room (k + 1) X.A) (hb : Binds X.K fd ps []) (hx : Passes CX X E) (ha : PE X a ta) (hi : PE X b tb)
    (hs : ∀ x i, subscripted b true (.ref x) i = runValue (.builtin "lifetime.subscript" ⟨[.ref x, i], []⟩)) :
    PE X (.Subscript a b pos) (tOp (fun x y H Q => ∃ p dx fs, x = .ref p ∧ H p = some (.ins C dx fs) ∧ sp [x, y] H Q E) ta tb) := by
  refine ⟨fun pins s σ H Q I h => Subscript_ (binT ha hi I h fun v u s2 x y H2 I2 rx ry q => ?_)⟩
  obtain ⟨p, dx, fs, rfl, hp, q⟩ := q
  cases rx
  obtain ⟨ox, od, J, _⟩ := inst I2 hp
  obtain ⟨mm, hF⟩ := I2.fr
  exact PySem.W.sub_K hF I2.ok.mod.kin J m.at_ m.fi m.fn (run_at F hr.in1 rfl hb hx I2 (vals2 p ry) q) (hs _ _)
/-- len(x) -/
theorem call_lenO (m : M X.K C "__len__" g) (F : FnOk X.prog X.w X.K X.mg X.base CX k g fd ps sp) (hr : Room (k + 1) X.A) (hb : Binds X.K fd ps []) (hx : Passes CX X E) :
    CallR X (.builtin "len") (fun xs H Q => ∃ p dx fs, xs = [.ref p] ∧ H p = some (.ins C dx fs) ∧ sp [.ref p] H (fun v H' => ∃ n, v = .int n ∧ 0 ≤ n ∧ n < 2 ^ 63 ∧ Q (.int n) H') E) := by
  intro pins s σ H xs us Q I r ⟨p, dx, fs, e, hp, q⟩
  subst e
  obtain ⟨u, rfl, rx⟩ := vals1 r
  cases rx
  obtain ⟨ox, od, J, _⟩ := inst I hp
  obtain ⟨mm, hF⟩ := I.fr
  refine PySem.W.len_K hF I.ok.mod.kin J m.at_ m.fn (wpAny_mono (run_at F hr.in1 rfl hb hx I (vals1r p) q) (fun v s' hv => ?_) fun _ _ e => e)
  obtain ⟨z, H', I', rz, n, rfl, h0, h1, qq⟩ := hv
  obtain ⟨t, rfl⟩ := rz
  exact ⟨⟨h0, h1⟩, .int n, H', I'.tok _, ⟨_, rfl⟩, qq⟩
/-- y in x, y not in x -/
theorem op_inO (m : M X.K C "__contains__" g) (F : FnOk X.prog X.w X.K X.mg X.base CX k g fd ps sp) (hr : Room k X.A) (hb : Binds X.K fd ps []) (hx : Passes CX X E) :
    OpR X (compareOp .In) (fun y x H Q => ∃ p dx fs, x = .ref p ∧ H p = some (.ins C dx fs) ∧ sp [x, y] H (fun v H' => ∃ b, v = .bl b ∧ Q (.bl b) H') E) := by
  intro pins s σ H y x u v Q I ry rx ⟨p, dx, fs, e, hp, q⟩
  subst e
  cases rx
  obtain ⟨ox, od, J, _⟩ := inst I hp
  obtain ⟨mm, hF⟩ := I.fr
  refine PySem.W.in_K hF I.ok.mod.kin J m.at_ m.fn (wpAny_mono (run_at F hr rfl hb hx I (vals2 p ry) q) (fun v s' hv => ?_) fun _ _ e => e)
  obtain ⟨z, H', I', rz, b, rfl, qq⟩ := hv
  cases rz
  exact wpAny_pure ⟨.bl b, H', I', rfl, qq⟩
theorem op_notInO (m : M X.K C "__contains__" g) (F : FnOk X.prog X.w X.K X.mg X.base CX k g fd ps sp) (hr : Room k X.A) (hb : Binds X.K fd ps []) (hx : Passes CX X E) :
    OpR X (compareOp .NotIn) (fun y x H Q => ∃ p dx fs, x = .ref p ∧ H p = some (.ins C dx fs) ∧ sp [x, y] H (fun v H' => ∃ b, v = .bl b ∧ Q (.bl (!b)) H') E) := by
  intro pins s σ H y x u v Q I ry rx ⟨p, dx, fs, e, hp, q⟩
  subst e
  cases rx
  obtain ⟨ox, od, J, _⟩ := inst I hp
  obtain ⟨mm, hF⟩ := I.fr
  refine PySem.W.notIn_K hF I.ok.mod.kin J m.at_ m.fn (wpAny_mono (run_at F hr rfl hb hx I (vals2 p ry) q) (fun v s' hv => ?_) fun _ _ e => e)
  obtain ⟨z, H', I', rz, b, rfl, qq⟩ := hv
  cases rz
  exact wpAny_pure ⟨.bl (!b), H', I', rfl, qq⟩
/-- ~x -/
theorem un_invO (m : M X.K C "__invert__" g) (F : FnOk X.prog X.w X.K X.mg X.base CX k g fd ps sp) (hr : Room k X.A) (hb : Binds X.K fd ps []) (hx : Passes CX X E) :
    UnR X (unaryOp .Invert) (fun x H Q => ∃ p dx fs, x = .ref p ∧ H p = some (.ins C dx fs) ∧ sp [x] H Q E) := by
  intro pins s σ H x v Q I rx ⟨p, dx, fs, e, hp, q⟩
  subst e
  cases rx
  obtain ⟨ox, od, J, _⟩ := inst I hp
  obtain ⟨mm, hF⟩ := I.fr
  exact PySem.W.ksp_inv hF I.ok.mod.kin J m.at_ m.fn (run_at F hr rfl hb hx I (vals1r p) q)
/-- bool(x) -/
theorem call_boolO (m : M X.K C "__bool__" g) (F : FnOk X.prog X.w X.K X.mg X.base CX k g fd ps sp) (hr : Room (k + 2) X.A) (hb : Binds X.K fd ps []) (hx : Passes CX X E) :
    CallR X (.type "bool") (fun xs H Q => ∃ p dx fs, xs = [.ref p] ∧ H p = some (.ins C dx fs) ∧ sp [.ref p] H (fun v H' => ∃ b, v = .bl b ∧ Q (.bl b) H') E) := by
  intro pins s σ H xs us Q I r ⟨p, dx, fs, e, hp, q⟩
  subst e
  obtain ⟨u, rfl, rx⟩ := vals1 r
  cases rx
  obtain ⟨ox, od, J, _⟩ := inst I hp
  obtain ⟨mm, hF⟩ := I.fr
  refine call_bool_any (PySem.W.truthy_K hF I.ok.mod.kin J m.at_ m.fn (wpAny_mono (run_at F hr.in1.in1 rfl hb hx I (vals1r p) q) (fun v s' hv => ?_) fun _ _ e => e))
  obtain ⟨z, H', I', rz, b, rfl, qq⟩ := hv
  cases rz
  exact ⟨.bl b, H', I', rfl, qq⟩
/-- what the class says of an operator beside a built-in class -/
structure OpM (K : PySem.W.Frag) (C : Addr) (op : Operator) (g : Addr) (T : String) : Prop where
  m : M K C (PySem.dunder op.info.2) g
  first : PySem.W.selfFirst K C = true
  r : ∃ rc, PySem.W.findIn K (.ref C) (dunderR op.info.2) = some rc ∧ (rc = none ∨ ∃ g : Addr, rc = some (.ref g))
  t1 : ∃ fo, PySem.W.findIn K (.type T) (PySem.dunder op.info.2) = some fo
  t2 : ∃ ro, PySem.W.findIn K (.type T) (dunderR op.info.2) = some ro
  sub : PySem.W.subIn K (.type T) (.ref C) = some false
/-- x op y, x an instance: what comes back is an instance -/
theorem op_binO {op : Operator} {T : String} (m : OpM X.K C op g T) (F : FnOk X.prog X.w X.K X.mg X.base CX k g fd ps sp) (hr : Room k X.A) (hb : Binds X.K fd ps []) (hx : Passes CX X E) :
    OpR X (binaryOp op) (fun x y H Q => ∃ p dx fs, x = .ref p ∧ H p = some (.ins C dx fs) ∧ TyX X.K H y (.type T) ∧ sp [x, y] H (fun v H' => (∃ q, v = .ref q) ∧ Q v H') E) := by
  intro pins s σ H x y v u Q I rx ry ⟨p, dx, fs, e, hp, ty, q⟩
  subst e
  cases rx
  obtain ⟨ox, od, J, _⟩ := inst I hp
  obtain ⟨mm, hF⟩ := I.fr
  obtain ⟨rc, h1, h2⟩ := m.r
  obtain ⟨fo, h3⟩ := m.t1
  obtain ⟨ro, h4⟩ := m.t2
  refine PySem.W.own_bin hF I.ok.mod.kin J (T := T) ?_ m.first m.m.at_ m.m.fn h1 h2 h3 h4 m.sub (wpAny_mono (run_at F hr rfl hb hx I (vals2 p ry) q) (fun v s' hv => ?_) fun _ _ e => e)
  · obtain ⟨P, kx, hP, _⟩ := kit_of I ry ty
    exact kx.ty _ _ I.kIn hP
  · obtain ⟨z, H', I', rz, ⟨q', rfl⟩, qq⟩ := hv
    cases rz
    exact ⟨.ref q', H', I', rfl, qq⟩
end
end Own
set_option linter.all false
set_option maxRecDepth 100000
set_option maxHeartbeats 1000000
/-! What a class says of its methods: the facts. -/
namespace PD
open PySem PySem.Spec PyProof.Rows L2
theorem methB_ok {K : PySem.W.Frag} {C : Addr} {m : Str} (h : methB K C m = true) : Own.M K C m (He.ma K C m) ∧ Meth K C m (He.ma K C m) := by
  simp only [methB, Bool.and_eq_true] at h
  obtain ⟨⟨⟨h1, h2⟩, h3⟩, h4⟩ := h
  exact ⟨⟨He.eqO_ok h1, h2, h3⟩, ⟨He.eqO_ok h1, h2, h4⟩⟩
theorem propB_ok {K : PySem.W.Frag} {C : Addr} {f : Str} (h : propB K C f = true) : PropOf K C f (He.ma K C f) (He5.wf K C "property" f) := by
  simp only [propB, Bool.and_eq_true, decide_eq_true_eq] at h
  obtain ⟨⟨⟨h1, h2⟩, h3⟩, h4⟩ := h
  refine ⟨He.eqO_ok h1, He.eqO_ok h2, h3, ?_⟩
  unfold He5.wf
  split at h4
  · rename_i g r e
    exact ⟨r, by rw [e]⟩
  · cases h4
theorem opMB_ok {K : PySem.W.Frag} {C : Addr} {op : Operator} {T : String} (h : opMB K C op T = true) : Own.OpM K C op (He.ma K C (PySem.dunder op.info.2)) T := by
  simp only [opMB, Bool.and_eq_true, decide_eq_true_eq] at h
  obtain ⟨⟨⟨⟨⟨h1, h2⟩, h3⟩, h4⟩, h5⟩, h6⟩ := h
  exact ⟨(methB_ok h1).1, h2, ⟨none, He.eqO_ok h3, .inl rfl⟩, Option.isSome_iff_exists.mp h4, Option.isSome_iff_exists.mp h5, h6⟩
theorem cmB_ok {K : PySem.W.Frag} {C : Addr} {m : Str} (h : cmB K C m = true) : ClX.CRead K C (.type "type") ∧ ClX.CMet K C (.type "type") m (He.ma K C m) (He5.wf K C "classmethod" m) := by
  simp only [cmB, Bool.and_eq_true] at h
  obtain ⟨⟨⟨h1, h2⟩, h3⟩, h4⟩ := h
  exact ⟨⟨h1, He.eqO_ok h2⟩, He5.cmet_of h3 h4⟩
theorem clsB_ok {K : PySem.W.Frag} {C : Addr} {fields : List Str} (h : clsB K C fields = true) : Cls K C ∧ ∀ f ∈ fields, NoAttr K C f := by
  simp only [clsB, Bool.and_eq_true, List.all_eq_true] at h
  obtain ⟨⟨h1, h2, h3, h4⟩, h5⟩ := h
  exact ⟨⟨h1, h2, h3, He.eqO_ok h4⟩, fun f hf => He.eqO_ok (h5 f hf)⟩
theorem mkB_ok {K : PySem.W.Frag} {C : Addr} (h : mkB K C = true) : Mk K C (He.ma K C "__init__") := by
  simp only [mkB, Bool.and_eq_true] at h
  obtain ⟨⟨⟨h1, h2⟩, h3⟩, h4⟩ := h
  exact ⟨h1, He.eqO_ok h2, h3, h4⟩
theorem fnR_of {P : Program} {w : World} {K : PySem.W.Frag} {mg : Str → Option Value} {base : Heap} {CX : CXT} {k : Nat} {g : Addr} {fd : FuncData} {ps : List Str} {sp : Sp} (F : FnOk P w K mg base CX k g fd ps sp) (hb : Binds K fd ps []) : FnR P w K mg base CX k g sp := by
  intro A outer s H us vs Q E hr e0 r h
  have hl := F.len _ _ _ _ h
  refine F.run A outer s H ⟨us, []⟩ us vs Q E hr e0 ?_ r h
  have := hb s us (e0.mod.kin.keeps fun b o e => (e0.bs b o e).1) (by rw [List.append_nil, ← r.length]; exact hl)
  rwa [List.append_nil] at this
end PD
set_option Elab.async false
set_option linter.all false
set_option maxRecDepth 100000
set_option maxHeartbeats 0
namespace K16
open PySem PySem.Spec PyProof.Rows L2 PD
def fe (x : Str) (i np : Nat) (b n : Bool) : Str × Nat × Nat × Bool × Bool := (x, i, np, b, n)
def fns0 : Fns := [fe "is_plain" 0 1 false false, fe "is_whole" 1 3 false false, fe "are_heights" 2 1 false false, fe "is_gate" 3 2 false false, fe "is_land" 4 1 false false, fe "is_step" 5 2 false false, fe "fits_script" 6 2 false false, fe "divisor_of" 7 2 false false, fe "is_amount" 8 1 false false, fe "ground_of" 9 3 false false, fe "first_shut" 10 1 false false, fe "need_land" 11 1 false false, fe "need_script" 33 2 false false, fe "need_both" 34 2 false false, fe "need_amount" 35 1 false false, fe "need_number" 86 3 false false, fe "is_script" 12 2 false false, fe "grounds" 13 1 false false, fe "lowest" 36 2 false false, fe "plus" 37 2 false false, fe "minus" 38 2 false false, fe "times" 39 2 false false, fe "shared" 40 2 false false, fe "quotient" 41 2 false false, fe "is_less" 42 2 false false]
def fns1 : Fns := [fe "least" 43 1 false false, fe "runs_of" 44 1 false false, fe "lower_sides" 45 2 false false, fe "highest_first" 46 2 false false, fe "run_with" 47 2 false false, fe "inflows" 48 2 false false, fe "rates" 49 2 false false, fe "risen" 50 3 false false, fe "ground_at" 51 3 false false, fe "is_wet" 52 3 false false, fe "comes_late" 53 4 false false, fe "turned" 54 4 false false, fe "stepped" 55 3 false false, fe "waits_of" 56 2 false false, fe "times_left" 57 3 false false, fe "begun" 58 3 false false, fe "course_from" 59 3 false false, fe "course" 60 2 false false, fe "pieces_of" 87 1 false false, fe "state_then" 61 2 false false, fe "at_amount" 62 3 false false, fe "wet_at" 63 2 false false, fe "line_of" 88 3 false false, fe "form_of" 89 1 false false, fe "lowest_common" 90 2 false false]
def fns2 : Fns := [fe "need_all" 64 3 false false, fe "surfaces" 65 3 false false, fe "wet" 66 3 false false, fe "word_of" 67 3 false false, fe "runs" 68 3 false false, fe "steps_done" 69 3 false false, fe "range_of" 97 1 false false, fe "joined_rows" 98 1 false false, fe "ranges_true" 105 1 false false, fe "in_order" 99 1 false false, fe "parts_between" 100 3 false false, fe "level_forms" 91 3 false false, fe "done_ranges" 101 2 false false, fe "cut_where" 106 4 false false, fe "middle" 107 1 false false, fe "wet_parts" 108 3 false false, fe "wet_ranges" 109 3 false false, fe "are_joined" 110 4 false false, fe "joined" 111 4 false false, fe "dry_in" 128 3 false false, fe "dry_until" 129 3 false false, fe "all_lots" 132 1 false false, fe "least_gates" 133 3 false false, fe "lines_then" 116 3 false false, fe "parted_at" 117 3 false false]
def fns3 : Fns := [fe "need_two" 118 3 false false, fe "alike" 119 3 false false, fe "parting" 120 3 false false, fe "idle_steps" 125 2 false false, fe "fallen_more" 159 3 false false, fe "set_at" 160 4 false false, fe "is_fact" 137 2 false false, fe "need_facts" 138 3 false false, fe "cuts_of" 139 4 false false, fe "is_true" 140 3 false false, fe "fact_rows" 141 4 false false, fe "amounts" 142 3 false false, fe "telling" 143 3 false false, fe "land_text" 185 1 false false, fe "figures_in" 178 1 false false, fe "read_land" 186 1 false false, fe "need_result" 152 1 false false, fe "longer" 153 2 false false, fe "shorter" 154 2 false false, fe "is_wet_ever" 155 1 false false, fe "_law_flooding_right" 187 4 false false, fe "_law_ranges_right" 188 5 false false, fe "written_rains" 161 1 false false, fe "written_texts" 176 1 false false]
def fns : Fns := fns0 ++ fns1 ++ fns2 ++ fns3
def fnsL : Fns := fns ++ [fe "_law_rest_right" 189 5 false false, fe "_law_rain_right" 190 1 false false]
def gcs : List (Str × Nat) := [("MOST_STEPS", 0), ("NOTHING", 1), ("HIGH", 2)]
def c_is_plain : Ct := ⟨["value"], defScope (top 13), true, [], false, none, false, fns, gcs, excs, blts, [], [], []⟩
def c_is_whole : Ct := ⟨["value", "low", "high"], defScope (top 14), true, [], false, none, false, fns, gcs, excs, blts, [], [], []⟩
def c_are_heights : Ct := ⟨["value", "part"], defScope (top 15), true, [], false, none, false, fns, gcs, excs, blts, [], [], []⟩
def c_is_gate : Ct := ⟨["value", "columns"], defScope (top 16), true, [], false, none, false, fns, gcs, excs, blts, [], [], []⟩
def c_is_land : Ct := ⟨["value", "heights", "gates", "rain", "gate", "one", "other", "part"], defScope (top 17), true, [], false, none, false, fns, gcs, excs, blts, [], [], []⟩
def c_is_step : Ct := ⟨["land", "value"], defScope (top 18), true, [], false, none, false, fns, gcs, excs, blts, [], [], []⟩
def c_fits_script : Ct := ⟨["land", "value", "step"], defScope (top 19), true, [], false, none, false, fns, gcs, excs, blts, [], [], []⟩
def c_divisor_of : Ct := ⟨["one", "other"], defScope (top 20), true, [], false, none, false, fns, gcs, excs, blts, [], [], []⟩
def c_is_amount : Ct := ⟨["value"], defScope (top 21), true, [], false, none, false, fns, gcs, excs, blts, [], [], []⟩
def c_ground_of : Ct := ⟨["land", "shut", "column", "found", "number"], defScope (top 22), true, [], false, none, false, fns, gcs, excs, blts, [], [], []⟩
def c_first_shut : Ct := ⟨["land", "number", "gate"], defScope (top 23), true, [], false, none, false, fns, gcs, excs, blts, [], [], []⟩
def c_need_land : Ct := ⟨["land"], defScope (top 24), true, [], false, none, false, fns, gcs, excs, blts, [], [], []⟩
def c_need_script : Ct := ⟨["land", "script"], defScope (top 25), true, [], false, none, false, fns, gcs, excs, blts, [], [], []⟩
def c_need_both : Ct := ⟨["land", "script"], defScope (top 26), true, [], false, none, false, fns, gcs, excs, blts, [], [], []⟩
def c_need_amount : Ct := ⟨["amount"], defScope (top 27), true, [], false, none, false, fns, gcs, excs, blts, [], [], []⟩
def c_need_number : Ct := ⟨["value", "low", "high"], defScope (top 28), true, [], false, none, false, fns, gcs, excs, blts, [], [], []⟩
def c_is_script : Ct := ⟨["land", "value"], defScope (top 29), true, [], false, none, false, fns, gcs, excs, blts, [], [], []⟩
def c_grounds : Ct := ⟨["land", "column"], defScope (top 30), true, [], false, none, false, fns, gcs, excs, blts, [], [], []⟩
def c_lowest : Ct := ⟨["top", "below", "divisor"], defScope (top 33), true, [], false, none, false, fns, gcs, excs, blts, [], [], []⟩
def c_plus : Ct := ⟨["one", "other"], defScope (top 34), true, [], false, none, false, fns, gcs, excs, blts, [], [], []⟩
def c_minus : Ct := ⟨["one", "other"], defScope (top 35), true, [], false, none, false, fns, gcs, excs, blts, [], [], []⟩
def c_times : Ct := ⟨["one", "other"], defScope (top 36), true, [], false, none, false, fns, gcs, excs, blts, [], [], []⟩
def c_shared : Ct := ⟨["one", "by"], defScope (top 37), true, [], false, none, false, fns, gcs, excs, blts, [], [], []⟩
def c_quotient : Ct := ⟨["one", "other"], defScope (top 38), true, [], false, none, false, fns, gcs, excs, blts, [], [], []⟩
def c_is_less : Ct := ⟨["one", "other"], defScope (top 39), true, [], false, none, false, fns, gcs, excs, blts, [], [], []⟩
def c_least : Ct := ⟨["fractions", "found", "one"], defScope (top 40), true, [], false, none, false, fns, gcs, excs, blts, [], [], []⟩
def c_runs_of : Ct := ⟨["surfaces", "found", "column"], defScope (top 43), true, [1], false, none, false, fns, gcs, excs, blts, [], [], []⟩
def c_lower_sides : Ct := ⟨["surfaces", "run", "first", "last", "level", "found"], defScope (top 44), true, [], false, none, false, fns, gcs, excs, blts, [], [], []⟩
def c_highest_first : Ct := ⟨["surfaces", "runs", "found", "run", "at", "one"], defScope (top 45), true, [], false, none, false, fns, gcs, excs, blts, [], [], []⟩
def c_run_with : Ct := ⟨["runs", "column", "run"], defScope (top 46), true, [], false, none, false, fns, gcs, excs, blts, [], [], []⟩
def c_inflows : Ct := ⟨["land", "surfaces", "runs", "gets", "run", "rained", "column", "sides", "side", "there"], defScope (top 47), true, [3], false, none, false, fns, gcs, excs, blts, [], [3], []⟩
def c_rates : Ct := ⟨["land", "surfaces", "found", "run", "gets", "many", "rate"], defScope (top 48), true, [], false, none, false, fns, gcs, excs, blts, [], [], []⟩
def c_risen : Ct := ⟨["surfaces", "rises", "more", "level", "rate"], defScope (top 49), true, [], false, none, false, fns, gcs, excs, blts, [], [], []⟩
def c_ground_at : Ct := ⟨["land", "state", "column"], defScope (top 50), true, [], false, none, false, fns, gcs, excs, blts, [], [], []⟩
def c_is_wet : Ct := ⟨["land", "state", "column"], defScope (top 51), true, [], false, none, false, fns, gcs, excs, blts, [], [], []⟩
def c_comes_late : Ct := ⟨["land", "state", "number", "is_shut", "column", "beside", "one"], defScope (top 52), true, [], false, none, false, fns, gcs, excs, blts, [], [], []⟩
def c_turned : Ct := ⟨["land", "state", "number", "is_shut", "amount", "surfaces", "shut", "done", "late", "column", "later", "one", "level"], defScope (top 53), true, [], false, none, false, fns, gcs, excs, blts, [], [], []⟩
def c_stepped : Ct := ⟨["land", "script", "state", "step", "done"], defScope (top 54), true, [], false, none, false, fns, gcs, excs, blts, [], [], []⟩
def c_waits_of : Ct := ⟨["script", "state"], defScope (top 55), true, [], false, none, false, fns, gcs, excs, blts, [], [], []⟩
def c_times_left : Ct := ⟨["script", "state", "rises", "surfaces", "found", "first", "last", "level", "column"], defScope (top 56), true, [4], false, none, false, fns, gcs, excs, blts, [], [], []⟩
def c_begun : Ct := ⟨["land", "script", "shut", "surfaces", "column"], defScope (top 57), true, [], false, none, false, fns, gcs, excs, blts, [], [], []⟩
def c_course_from : Ct := ⟨["land", "script", "state", "found", "rises", "left", "more", "later"], defScope (top 58), true, [3], false, none, false, fns, gcs, excs, blts, [], [], []⟩
def c_course : Ct := ⟨["land", "script"], defScope (top 59), true, [], false, none, false, fns, gcs, excs, blts, [], [], []⟩
def c_pieces_of : Ct := ⟨["rows", "ends", "state", "rises", "end"], defScope (top 60), true, [], false, none, false, fns, gcs, excs, blts, [], [], []⟩
def c_state_then : Ct := ⟨["rows", "amount", "state", "rises", "row"], defScope (top 61), true, [], false, none, false, fns, gcs, excs, blts, [], [], []⟩
def c_at_amount : Ct := ⟨["land", "script", "amount"], defScope (top 62), true, [], false, none, false, fns, gcs, excs, blts, [], [], []⟩
def c_wet_at : Ct := ⟨["land", "state", "column"], defScope (top 63), true, [], false, none, false, fns, gcs, excs, blts, [], [], []⟩
def c_line_of : Ct := ⟨["state", "rises", "column", "rate"], defScope (top 64), true, [], false, none, false, fns, gcs, excs, blts, [], [], []⟩
def c_form_of : Ct := ⟨["line", "one", "other", "below"], defScope (top 65), true, [], false, none, false, fns, gcs, excs, blts, [], [], []⟩
def c_lowest_common : Ct := ⟨["one", "other"], defScope (top 66), true, [], false, none, false, fns, gcs, excs, blts, [], [], []⟩
def c_need_all : Ct := ⟨["land", "script", "amount"], defScope (top 68), true, [], false, none, false, fns, gcs, excs, blts, [], [], []⟩
def c_surfaces : Ct := ⟨["land", "script", "amount"], defScope (top 69), true, [], false, none, false, fns, gcs, excs, blts, [], [], []⟩
def c_wet : Ct := ⟨["land", "script", "amount"], defScope (top 70), true, [], false, none, false, fns, gcs, excs, blts, [], [], []⟩
def c_word_of : Ct := ⟨["levels", "run", "gets", "sides"], defScope (top 71), true, [], false, none, false, fns, gcs, excs, blts, [], [], []⟩
def c_runs : Ct := ⟨["land", "script", "amount", "levels", "run", "gets"], defScope (top 72), true, [], false, none, false, fns, gcs, excs, blts, [], [], []⟩
def c_steps_done : Ct := ⟨["land", "script", "amount"], defScope (top 73), true, [], false, none, false, fns, gcs, excs, blts, [], [], []⟩
def c_range_of : Ct := ⟨["part", "low", "high"], defScope (top 75), true, [], false, none, false, fns, gcs, excs, blts, [], [], []⟩
def c_joined_rows : Ct := ⟨["rows", "found", "part", "value", "later", "ahead"], defScope (top 76), true, [1], false, none, false, fns, gcs, excs, blts, [], [], []⟩
def c_ranges_true : Ct := ⟨["rows", "stretch", "value"], defScope (top 77), true, [], false, none, false, fns, gcs, excs, blts, [], [], []⟩
def c_in_order : Ct := ⟨["amounts", "found", "amount", "at", "one"], defScope (top 78), true, [], false, none, false, fns, gcs, excs, blts, [], [], []⟩
def c_parts_between : Ct := ⟨["low", "high", "cuts", "found", "begin", "cut", "one"], defScope (top 79), true, [], false, none, false, fns, gcs, excs, blts, [], [], []⟩
def c_level_forms : Ct := ⟨["land", "script", "column", "found", "state", "rises", "end", "form"], defScope (top 81), true, [3], false, none, false, fns, gcs, excs, blts, [], [], []⟩
def c_done_ranges : Ct := ⟨["land", "script", "rows", "state", "rises", "end", "part"], defScope (top 82), true, [], false, none, false, fns, gcs, excs, blts, [], [], []⟩
def c_cut_where : Ct := ⟨["state", "rises", "column", "level", "more"], defScope (top 83), true, [], false, none, false, fns, gcs, excs, blts, [], [], []⟩
def c_middle : Ct := ⟨["part", "low", "high"], defScope (top 84), true, [], false, none, false, fns, gcs, excs, blts, [], [], []⟩
def c_wet_parts : Ct := ⟨["land", "script", "column", "rows", "found", "state", "rises", "end", "cuts", "part"], defScope (top 85), true, [4], false, none, false, fns, gcs, excs, blts, [], [], []⟩
def c_wet_ranges : Ct := ⟨["land", "script", "column"], defScope (top 86), true, [], false, none, false, fns, gcs, excs, blts, [], [], []⟩
def c_are_joined : Ct := ⟨["land", "state", "column", "second", "runs"], defScope (top 87), true, [], false, none, false, fns, gcs, excs, blts, [], [], []⟩
def c_joined : Ct := ⟨["land", "script", "column", "second", "rows", "found", "state", "rises", "end", "cuts", "part"], defScope (top 88), true, [5], false, none, false, fns, gcs, excs, blts, [], [], []⟩
def c_dry_in : Ct := ⟨["land", "rows", "column", "state", "rises", "end", "cuts"], defScope (top 90), true, [], false, none, false, fns, gcs, excs, blts, [], [], []⟩
def c_dry_until : Ct := ⟨["land", "script", "column"], defScope (top 91), true, [], false, none, false, fns, gcs, excs, blts, [], [], []⟩
def c_all_lots : Ct := ⟨["many", "found", "size", "lot", "number"], defScope (top 92), true, [], false, none, false, fns, gcs, excs, blts, [], [], []⟩
def c_least_gates : Ct := ⟨["land", "column", "amount", "found", "lot", "number", "other", "until"], defScope (top 93), true, [3], false, none, false, fns, gcs, excs, blts, [], [], []⟩
def c_lines_then : Ct := ⟨["pieces", "amount", "columns", "state", "rises", "end", "piece", "column"], defScope (top 95), true, [], false, none, false, fns, gcs, excs, blts, [], [], []⟩
def c_parted_at : Ct := ⟨["land", "one", "other", "ones", "others", "amount", "piece"], defScope (top 96), true, [], false, none, false, fns, gcs, excs, blts, [], [], []⟩
def c_need_two : Ct := ⟨["land", "one", "other"], defScope (top 97), true, [], false, none, false, fns, gcs, excs, blts, [], [], []⟩
def c_alike : Ct := ⟨["land", "one", "other"], defScope (top 98), true, [], false, none, false, fns, gcs, excs, blts, [], [], []⟩
def c_parting : Ct := ⟨["land", "one", "other"], defScope (top 99), true, [], false, none, false, fns, gcs, excs, blts, [], [], []⟩
def c_idle_steps : Ct := ⟨["land", "script", "found", "at"], defScope (top 100), true, [2], false, none, false, fns, gcs, excs, blts, [], [], []⟩
def c_fallen_more : Ct := ⟨["land", "state", "amounts", "amount"], defScope (top 103), true, [], false, none, false, fns, gcs, excs, blts, [], [], []⟩
def c_set_at : Ct := ⟨["land", "state", "gate", "is_shut"], defScope (top 104), true, [], false, none, false, fns, gcs, excs, blts, [], [], []⟩
def c_is_fact : Ct := ⟨["land", "value"], defScope (top 108), true, [], false, none, false, fns, gcs, excs, blts, [], [], []⟩
def c_need_facts : Ct := ⟨["land", "script", "facts", "fact"], defScope (top 109), true, [], false, none, false, fns, gcs, excs, blts, [], [], []⟩
def c_cuts_of : Ct := ⟨["land", "state", "rises", "fact", "level"], defScope (top 110), true, [], false, none, false, fns, gcs, excs, blts, [], [], []⟩
def c_is_true : Ct := ⟨["land", "state", "fact", "level", "other"], defScope (top 111), true, [], false, none, false, fns, gcs, excs, blts, [], [], []⟩
def c_fact_rows : Ct := ⟨["land", "script", "facts", "more", "rows", "found", "state", "rises", "end", "cuts", "fact", "part", "then"], defScope (top 112), true, [5], false, none, false, fns, gcs, excs, blts, [], [], []⟩
def c_amounts : Ct := ⟨["land", "script", "facts", "part", "good", "then"], defScope (top 113), true, [], false, none, false, fns, gcs, excs, blts, [], [], []⟩
def c_telling : Ct := ⟨["land", "script", "facts", "columns", "looks", "column", "some", "part", "good", "then", "found", "wet", "row"], defScope (top 114), true, [], false, none, false, fns, gcs, excs, blts, [], [], []⟩
def c_land_text : Ct := ⟨["land"], defScope (top 118), true, [], false, none, false, fns, gcs, excs, blts, [], [], []⟩
def c_figures_in : Ct := ⟨["words", "word"], defScope (top 119), true, [], false, none, false, fns, gcs, excs, blts, [], [], []⟩
def c_read_land : Ct := ⟨["value", "rows", "line", "gates", "row", "found"], defScope (top 120), true, [], false, none, false, fns, gcs, excs, blts, [], [], []⟩
def c_need_result : Ct := ⟨["land"], defScope (top 123), true, [], false, none, false, fns, gcs, excs, blts, [], [], []⟩
def c_longer : Ct := ⟨["land", "height", "found"], defScope (top 124), true, [], false, none, false, fns, gcs, excs, blts, [], [], []⟩
def c_shorter : Ct := ⟨["land", "count", "heights"], defScope (top 125), true, [], false, none, false, fns, gcs, excs, blts, [], [], []⟩
def c_is_wet_ever : Ct := ⟨["land", "state", "rises"], defScope (top 126), true, [], false, none, false, fns, gcs, excs, blts, [], [], []⟩
def c__law_flooding_right : Ct := ⟨["h", "g", "w", "t", "due"], defScope (top 128), true, [], false, none, false, fns, gcs, excs, blts, [], [], []⟩
def c__law_ranges_right : Ct := ⟨["h", "g", "w", "v", "t", "due"], defScope (top 129), true, [], false, none, false, fns, gcs, excs, blts, [], [], []⟩
def c_written_rains : Ct := ⟨["number"], defScope (top 105), true, [], false, none, false, fns, gcs, excs, blts, [], [], []⟩
def c_written_texts : Ct := ⟨["land", "rows", "height", "column", "more", "shut"], defScope (top 116), true, [1], false, none, false, fns, gcs, excs, blts, [], [], []⟩
def c__law_rest_right : Ct := ⟨["h", "g", "q", "w", "v", "one"], defScope (top 130), true, [5], false, none, false, fns, gcs, excs, blts, [], [], [5]⟩
def c__law_rain_right : Ct := ⟨["g", "r"], defScope (top 131), true, [1], false, none, false, fns, gcs, excs, blts, [], [], [1]⟩
def c_law : Ct := ⟨["script", "h", "g", "q", "w", "v", "t"], defScope (top 132), true, [], false, none, false, fnsL, gcs, excs, blts, [], [], []⟩
def c_init_Rain : Ct := ⟨["self", "land"], defScope (cst 102 0), true, [0], false, none, false, fns, gcs, excs, blts, [], [], [0]⟩
def c_moved_Rain : Ct := ⟨["self", "state"], defScope (cst 102 1), true, [0], false, none, false, fns, gcs, excs, blts, [], [], [0]⟩
def c_fall_Rain : Ct := ⟨["self", "amount"], defScope (cst 102 2), true, [0], false, none, false, fns, gcs, excs, blts, [], [], [0]⟩
def c_shut_Rain : Ct := ⟨["self", "gate"], defScope (cst 102 4), true, [0], false, none, false, fns, gcs, excs, blts, [], [], [0]⟩
def c_set_gate_Rain : Ct := ⟨["self", "gate", "is_shut", "changes"], defScope (cst 102 5), true, [0], false, none, false, fns, gcs, excs, blts, [], [], [0]⟩
def c_fallen_Rain : Ct := ⟨["self"], defScope (cst 102 8), true, [0], false, none, false, fns, gcs, excs, blts, [], [], [0]⟩
def c_surfaces_Rain : Ct := ⟨["self"], defScope (cst 102 9), true, [0], false, none, false, fns, gcs, excs, blts, [], [], [0]⟩
def c_gates_Rain : Ct := ⟨["self"], defScope (cst 102 10), true, [0], false, none, false, fns, gcs, excs, blts, [], [], [0]⟩
def c_undo_Rain : Ct := ⟨["self"], defScope (cst 102 11), true, [0], false, none, false, fns, gcs, excs, blts, [], [], [0]⟩
def c_lines_Rain : Ct := ⟨["self", "only", "column", "word", "ground"], defScope (cst 102 13), true, [0], false, none, false, fns, gcs, excs, blts, [], [], [0]⟩
def c_getitem_Rain : Ct := ⟨["self", "column"], defScope (cst 102 14), true, [0], false, none, false, fns, gcs, excs, blts, [], [], [0]⟩
def c_contains_Rain : Ct := ⟨["self", "value"], defScope (cst 102 15), true, [0], false, none, false, fns, gcs, excs, blts, [], [], [0]⟩
def c_len_Rain : Ct := ⟨["self"], defScope (cst 102 16), true, [0], false, none, false, fns, gcs, excs, blts, [], [], [0]⟩
def c_bool_Rain : Ct := ⟨["self"], defScope (cst 102 17), true, [0], false, none, false, fns, gcs, excs, blts, [], [], [0]⟩
def c_init_Land : Ct := ⟨["self", "heights", "gates", "rain"], defScope (cst 122 1), true, [0], false, none, false, fns, gcs, excs, blts, [], [], [0]⟩
def c_valley_Land : Ct := ⟨["cls", "depth", "width"], defScope (cst 122 2), true, [], false, none, false, fns, gcs, excs, blts, [], [], []⟩
def c_source_Land : Ct := ⟨["self"], defScope (cst 122 3), true, [0], false, none, false, fns, gcs, excs, blts, [], [], [0]⟩
def c_add_Land : Ct := ⟨["self", "height", "heights", "gates", "rain"], defScope (cst 122 4), true, [0], false, none, false, fns, gcs, excs, blts, [], [], [0]⟩
def c_sub_Land : Ct := ⟨["self", "count", "heights", "gates", "rain"], defScope (cst 122 5), true, [0], false, none, false, fns, gcs, excs, blts, [], [], [0]⟩
def c_mul_Land : Ct := ⟨["self", "gate", "heights", "gates", "rain"], defScope (cst 122 6), true, [0], false, none, false, fns, gcs, excs, blts, [], [], [0]⟩
def c_invert_Land : Ct := ⟨["self", "heights", "gates", "rain", "last", "others", "column", "more", "shut"], defScope (cst 122 7), true, [0], false, none, false, fns, gcs, excs, blts, [], [], [0]⟩
def c_call_Land : Ct := ⟨["self", "amount"], defScope (cst 122 10), true, [0], false, none, false, fns, gcs, excs, blts, [], [], [0]⟩
def c_getitem_Land : Ct := ⟨["self", "column"], defScope (cst 122 11), true, [0], false, none, false, fns, gcs, excs, blts, [], [], [0]⟩
def c_len_Land : Ct := ⟨["self"], defScope (cst 122 12), true, [0], false, none, false, fns, gcs, excs, blts, [], [], [0]⟩
def c_contains_Land : Ct := ⟨["self", "value"], defScope (cst 122 13), true, [0], false, none, false, fns, gcs, excs, blts, [], [], [0]⟩
def c_bool_Land : Ct := ⟨["self"], defScope (cst 122 14), true, [0], false, none, false, fns, gcs, excs, blts, [], [], [0]⟩
def dr_is_plain : DRow := ⟨"is_plain", 0, ["value"], false, top 13, c_is_plain, none⟩
def dr_is_whole : DRow := ⟨"is_whole", 1, ["value", "low", "high"], false, top 14, c_is_whole, none⟩
def dr_are_heights : DRow := ⟨"are_heights", 2, ["value"], false, top 15, c_are_heights, none⟩
def dr_is_gate : DRow := ⟨"is_gate", 3, ["value", "columns"], false, top 16, c_is_gate, none⟩
def dr_is_land : DRow := ⟨"is_land", 4, ["value"], false, top 17, c_is_land, none⟩
def dr_is_step : DRow := ⟨"is_step", 5, ["land", "value"], false, top 18, c_is_step, none⟩
def dr_fits_script : DRow := ⟨"fits_script", 6, ["land", "value"], false, top 19, c_fits_script, none⟩
def dr_divisor_of : DRow := ⟨"divisor_of", 7, ["one", "other"], false, top 20, c_divisor_of, none⟩
def dr_is_amount : DRow := ⟨"is_amount", 8, ["value"], false, top 21, c_is_amount, none⟩
def dr_ground_of : DRow := ⟨"ground_of", 9, ["land", "shut", "column"], false, top 22, c_ground_of, none⟩
def dr_first_shut : DRow := ⟨"first_shut", 10, ["land"], false, top 23, c_first_shut, none⟩
def dr_need_land : DRow := ⟨"need_land", 11, ["land"], false, top 24, c_need_land, none⟩
def dr_need_script : DRow := ⟨"need_script", 33, ["land", "script"], false, top 25, c_need_script, none⟩
def dr_need_both : DRow := ⟨"need_both", 34, ["land", "script"], false, top 26, c_need_both, none⟩
def dr_need_amount : DRow := ⟨"need_amount", 35, ["amount"], false, top 27, c_need_amount, none⟩
def dr_need_number : DRow := ⟨"need_number", 86, ["value", "low", "high"], false, top 28, c_need_number, none⟩
def dr_is_script : DRow := ⟨"is_script", 12, ["land", "value"], false, top 29, c_is_script, none⟩
def dr_grounds : DRow := ⟨"grounds", 13, ["land"], false, top 30, c_grounds, none⟩
def dr_lowest : DRow := ⟨"lowest", 36, ["top", "below"], false, top 33, c_lowest, none⟩
def dr_plus : DRow := ⟨"plus", 37, ["one", "other"], false, top 34, c_plus, none⟩
def dr_minus : DRow := ⟨"minus", 38, ["one", "other"], false, top 35, c_minus, none⟩
def dr_times : DRow := ⟨"times", 39, ["one", "other"], false, top 36, c_times, none⟩
def dr_shared : DRow := ⟨"shared", 40, ["one", "by"], false, top 37, c_shared, none⟩
def dr_quotient : DRow := ⟨"quotient", 41, ["one", "other"], false, top 38, c_quotient, none⟩
def dr_is_less : DRow := ⟨"is_less", 42, ["one", "other"], false, top 39, c_is_less, none⟩
def dr_least : DRow := ⟨"least", 43, ["fractions"], false, top 40, c_least, none⟩
def dr_runs_of : DRow := ⟨"runs_of", 44, ["surfaces"], false, top 43, c_runs_of, none⟩
def dr_lower_sides : DRow := ⟨"lower_sides", 45, ["surfaces", "run"], false, top 44, c_lower_sides, none⟩
def dr_highest_first : DRow := ⟨"highest_first", 46, ["surfaces", "runs"], false, top 45, c_highest_first, none⟩
def dr_run_with : DRow := ⟨"run_with", 47, ["runs", "column"], false, top 46, c_run_with, none⟩
def dr_inflows : DRow := ⟨"inflows", 48, ["land", "surfaces"], false, top 47, c_inflows, none⟩
def dr_rates : DRow := ⟨"rates", 49, ["land", "surfaces"], false, top 48, c_rates, none⟩
def dr_risen : DRow := ⟨"risen", 50, ["surfaces", "rises", "more"], false, top 49, c_risen, none⟩
def dr_ground_at : DRow := ⟨"ground_at", 51, ["land", "state", "column"], false, top 50, c_ground_at, none⟩
def dr_is_wet : DRow := ⟨"is_wet", 52, ["land", "state", "column"], false, top 51, c_is_wet, none⟩
def dr_comes_late : DRow := ⟨"comes_late", 53, ["land", "state", "number", "is_shut"], false, top 52, c_comes_late, none⟩
def dr_turned : DRow := ⟨"turned", 54, ["land", "state", "number", "is_shut"], false, top 53, c_turned, none⟩
def dr_stepped : DRow := ⟨"stepped", 55, ["land", "script", "state"], false, top 54, c_stepped, none⟩
def dr_waits_of : DRow := ⟨"waits_of", 56, ["script", "state"], false, top 55, c_waits_of, none⟩
def dr_times_left : DRow := ⟨"times_left", 57, ["script", "state", "rises"], false, top 56, c_times_left, none⟩
def dr_begun : DRow := ⟨"begun", 58, ["land", "script", "shut"], false, top 57, c_begun, none⟩
def dr_course_from : DRow := ⟨"course_from", 59, ["land", "script", "state"], false, top 58, c_course_from, none⟩
def dr_course : DRow := ⟨"course", 60, ["land", "script"], false, top 59, c_course, none⟩
def dr_pieces_of : DRow := ⟨"pieces_of", 87, ["rows"], false, top 60, c_pieces_of, none⟩
def dr_state_then : DRow := ⟨"state_then", 61, ["rows", "amount"], false, top 61, c_state_then, none⟩
def dr_at_amount : DRow := ⟨"at_amount", 62, ["land", "script", "amount"], false, top 62, c_at_amount, none⟩
def dr_wet_at : DRow := ⟨"wet_at", 63, ["land", "state"], false, top 63, c_wet_at, none⟩
def dr_line_of : DRow := ⟨"line_of", 88, ["state", "rises", "column"], false, top 64, c_line_of, none⟩
def dr_form_of : DRow := ⟨"form_of", 89, ["line"], false, top 65, c_form_of, none⟩
def dr_lowest_common : DRow := ⟨"lowest_common", 90, ["one", "other"], false, top 66, c_lowest_common, none⟩
def dr_need_all : DRow := ⟨"need_all", 64, ["land", "script", "amount"], false, top 68, c_need_all, none⟩
def dr_surfaces : DRow := ⟨"surfaces", 65, ["land", "script", "amount"], false, top 69, c_surfaces, none⟩
def dr_wet : DRow := ⟨"wet", 66, ["land", "script", "amount"], false, top 70, c_wet, none⟩
def dr_word_of : DRow := ⟨"word_of", 67, ["levels", "run", "gets"], false, top 71, c_word_of, none⟩
def dr_runs : DRow := ⟨"runs", 68, ["land", "script", "amount"], false, top 72, c_runs, none⟩
def dr_steps_done : DRow := ⟨"steps_done", 69, ["land", "script", "amount"], false, top 73, c_steps_done, none⟩
def dr_range_of : DRow := ⟨"range_of", 97, ["part"], false, top 75, c_range_of, none⟩
def dr_joined_rows : DRow := ⟨"joined_rows", 98, ["rows"], false, top 76, c_joined_rows, none⟩
def dr_ranges_true : DRow := ⟨"ranges_true", 105, ["rows"], false, top 77, c_ranges_true, none⟩
def dr_in_order : DRow := ⟨"in_order", 99, ["amounts"], false, top 78, c_in_order, none⟩
def dr_parts_between : DRow := ⟨"parts_between", 100, ["low", "high", "cuts"], false, top 79, c_parts_between, none⟩
def dr_level_forms : DRow := ⟨"level_forms", 91, ["land", "script", "column"], false, top 81, c_level_forms, none⟩
def dr_done_ranges : DRow := ⟨"done_ranges", 101, ["land", "script"], false, top 82, c_done_ranges, none⟩
def dr_cut_where : DRow := ⟨"cut_where", 106, ["state", "rises", "column", "level"], false, top 83, c_cut_where, none⟩
def dr_middle : DRow := ⟨"middle", 107, ["part"], false, top 84, c_middle, none⟩
def dr_wet_parts : DRow := ⟨"wet_parts", 108, ["land", "script", "column"], false, top 85, c_wet_parts, none⟩
def dr_wet_ranges : DRow := ⟨"wet_ranges", 109, ["land", "script", "column"], false, top 86, c_wet_ranges, none⟩
def dr_are_joined : DRow := ⟨"are_joined", 110, ["land", "state", "column", "second"], false, top 87, c_are_joined, none⟩
def dr_joined : DRow := ⟨"joined", 111, ["land", "script", "column", "second"], false, top 88, c_joined, none⟩
def dr_dry_in : DRow := ⟨"dry_in", 128, ["land", "rows", "column"], false, top 90, c_dry_in, none⟩
def dr_dry_until : DRow := ⟨"dry_until", 129, ["land", "script", "column"], false, top 91, c_dry_until, none⟩
def dr_all_lots : DRow := ⟨"all_lots", 132, ["many"], false, top 92, c_all_lots, none⟩
def dr_least_gates : DRow := ⟨"least_gates", 133, ["land", "column", "amount"], false, top 93, c_least_gates, none⟩
def dr_lines_then : DRow := ⟨"lines_then", 116, ["pieces", "amount", "columns"], false, top 95, c_lines_then, none⟩
def dr_parted_at : DRow := ⟨"parted_at", 117, ["land", "one", "other"], false, top 96, c_parted_at, none⟩
def dr_need_two : DRow := ⟨"need_two", 118, ["land", "one", "other"], false, top 97, c_need_two, none⟩
def dr_alike : DRow := ⟨"alike", 119, ["land", "one", "other"], false, top 98, c_alike, none⟩
def dr_parting : DRow := ⟨"parting", 120, ["land", "one", "other"], false, top 99, c_parting, none⟩
def dr_idle_steps : DRow := ⟨"idle_steps", 125, ["land", "script"], false, top 100, c_idle_steps, none⟩
def dr_fallen_more : DRow := ⟨"fallen_more", 159, ["land", "state", "amounts"], false, top 103, c_fallen_more, none⟩
def dr_set_at : DRow := ⟨"set_at", 160, ["land", "state", "gate", "is_shut"], false, top 104, c_set_at, none⟩
def dr_is_fact : DRow := ⟨"is_fact", 137, ["land", "value"], false, top 108, c_is_fact, none⟩
def dr_need_facts : DRow := ⟨"need_facts", 138, ["land", "script", "facts"], false, top 109, c_need_facts, none⟩
def dr_cuts_of : DRow := ⟨"cuts_of", 139, ["land", "state", "rises", "fact"], false, top 110, c_cuts_of, none⟩
def dr_is_true : DRow := ⟨"is_true", 140, ["land", "state", "fact"], false, top 111, c_is_true, none⟩
def dr_fact_rows : DRow := ⟨"fact_rows", 141, ["land", "script", "facts", "more"], false, top 112, c_fact_rows, none⟩
def dr_amounts : DRow := ⟨"amounts", 142, ["land", "script", "facts"], false, top 113, c_amounts, none⟩
def dr_telling : DRow := ⟨"telling", 143, ["land", "script", "facts"], false, top 114, c_telling, none⟩
def dr_land_text : DRow := ⟨"land_text", 185, ["land"], false, top 118, c_land_text, none⟩
def dr_figures_in : DRow := ⟨"figures_in", 178, ["words"], false, top 119, c_figures_in, none⟩
def dr_read_land : DRow := ⟨"read_land", 186, ["value"], false, top 120, c_read_land, none⟩
def dr_need_result : DRow := ⟨"need_result", 152, ["land"], false, top 123, c_need_result, none⟩
def dr_longer : DRow := ⟨"longer", 153, ["land", "height"], false, top 124, c_longer, none⟩
def dr_shorter : DRow := ⟨"shorter", 154, ["land", "count"], false, top 125, c_shorter, none⟩
def dr_is_wet_ever : DRow := ⟨"is_wet_ever", 155, ["land"], false, top 126, c_is_wet_ever, none⟩
def dr__law_flooding_right : DRow := ⟨"_law_flooding_right", 187, ["h", "g", "w", "t"], false, top 128, c__law_flooding_right, none⟩
def dr__law_ranges_right : DRow := ⟨"_law_ranges_right", 188, ["h", "g", "w", "v", "t"], false, top 129, c__law_ranges_right, none⟩
def dr_written_rains : DRow := ⟨"written_rains", 161, ["number"], false, top 105, c_written_rains, some "written"⟩
def dr_written_texts : DRow := ⟨"written_texts", 176, ["land"], false, top 116, c_written_texts, some "written"⟩
def dr__law_rest_right : DRow := ⟨"_law_rest_right", 189, ["h", "g", "q", "w", "v"], false, top 130, c__law_rest_right, none⟩
def dr__law_rain_right : DRow := ⟨"_law_rain_right", 190, ["g"], false, top 131, c__law_rain_right, none⟩
def dr_law : DRow := ⟨"law", 191, ["script"], false, top 132, c_law, none⟩
def rs0 : List DRow := [dr_is_plain, dr_is_whole, dr_are_heights, dr_is_gate, dr_is_land, dr_is_step, dr_fits_script, dr_divisor_of, dr_is_amount, dr_ground_of, dr_first_shut, dr_need_land, dr_need_script, dr_need_both, dr_need_amount, dr_need_number, dr_is_script, dr_grounds, dr_lowest, dr_plus, dr_minus, dr_times, dr_shared, dr_quotient, dr_is_less]
def rs1 : List DRow := [dr_least, dr_runs_of, dr_lower_sides, dr_highest_first, dr_run_with, dr_inflows, dr_rates, dr_risen, dr_ground_at, dr_is_wet, dr_comes_late, dr_turned, dr_stepped, dr_waits_of, dr_times_left, dr_begun, dr_course_from, dr_course, dr_pieces_of, dr_state_then, dr_at_amount, dr_wet_at, dr_line_of, dr_form_of, dr_lowest_common]
def rs2 : List DRow := [dr_need_all, dr_surfaces, dr_wet, dr_word_of, dr_runs, dr_steps_done, dr_range_of, dr_joined_rows, dr_ranges_true, dr_in_order, dr_parts_between, dr_level_forms, dr_done_ranges, dr_cut_where, dr_middle, dr_wet_parts, dr_wet_ranges, dr_are_joined, dr_joined, dr_dry_in, dr_dry_until, dr_all_lots, dr_least_gates, dr_lines_then, dr_parted_at]
def rs3 : List DRow := [dr_need_two, dr_alike, dr_parting, dr_idle_steps, dr_fallen_more, dr_set_at, dr_is_fact, dr_need_facts, dr_cuts_of, dr_is_true, dr_fact_rows, dr_amounts, dr_telling, dr_land_text, dr_figures_in, dr_read_land, dr_need_result, dr_longer, dr_shorter, dr_is_wet_ever, dr__law_flooding_right, dr__law_ranges_right, dr_written_rains, dr_written_texts]
def rs : List DRow := rs0 ++ rs1 ++ rs2 ++ rs3
/-- a def's datum for the head -/
def dA (r : DRow) : He5.DefA := dB r.x r.nm r.st
theorem fn_eq : fn = rs.map dA ++ [dA dr__law_rest_right, dA dr__law_rain_right, dA dr_law, m_init_Rain, m_moved_Rain, m_fall_Rain, m_shut_Rain, m_set_gate_Rain, m_fallen_Rain, m_surfaces_Rain, m_gates_Rain, m_undo_Rain, m_lines_Rain, m_getitem_Rain, m_contains_Rain, m_len_Rain, m_bool_Rain, m_init_Land, m_valley_Land, m_source_Land, m_add_Land, m_sub_Land, m_mul_Land, m_invert_Land, m_call_Land, m_getitem_Land, m_len_Land, m_contains_Land, m_bool_Land] := rfl
theorem fa_eq : fa = rs.map (fun r => He.Fa.glo r.x) ++ [.glo "_law_rest_right", .glo "_law_rain_right", .glo "law", .glo "Land", .glo "Rain", .glo "NOTHING", .glo "HIGH", .int "MOST_STEPS" 6] ++ excs.map (fun p => He.Fa.glo p.1) ++ excs.map (fun p => He.Fa.exc p.1) ++ blts.map He.Fa.free := rfl
end K16
set_option linter.all false
set_option maxRecDepth 100000
set_option maxHeartbeats 0
namespace PD
open PySem PySem.Spec PyProof.Rows L2
def fin (r : M Fl) : PD.R D := match endD r with
  | .ok (d, _) => .ok d
  | .err c => .err c
  | .stuck => .stuck
theorem callP_row {P : Prog} {n id : Nat} {g : Fn} {ds : List D} (hn : P.nat id = none) (hf : P.fn id = some g) (hb : g.bag = false) (hl : ds.length = g.np) : callP P (n + 1) id ds = fin (evSs (tab P n) g.body (startE g ds) []) := by
  simp only [callP, hn, hf, hb, hl, and_self, if_true]
  rfl
theorem callB_row {P : Prog} {n id : Nat} {g : Fn} {ds : List D} {B : Bg} (hf : P.fn id = some g) (hb : g.bag = true) (hl : ds.length + 1 = g.np) : callB P (n + 1) id ds B = endD (evSs (tab P n) g.body (startE g ds) B) := by
  simp only [callB, hf, hb, hl, and_self, if_true]
  rfl
def L_is_plain : MSs := (.cons (.ret (.andv (.isi (.var 0) .int) (.nt (.isi (.var 0) .bool)))) .nil)
def F_is_plain : Fn := ⟨1, 1, false, false, L_is_plain⟩
def L_is_whole : MSs := (.cons (.ret (.andv (.call 0 (.cons (.var 0) .nil)) (.chain .le .le (.var 1) (.var 0) (.var 2)))) .nil)
def F_is_whole : Fn := ⟨3, 3, false, false, L_is_whole⟩
def L_are_heights : MSs := (.cons (.ret (.andv (.isi (.var 0) .tuple) (.andv (.chain .le .le (.con (.int 3)) (.blt .len (.var 0)) (.con (.int 8))) (.blt .all (.comp (.call 1 (.cons (.var 1) (.cons (.con (.int 0)) (.cons (.con (.int 9)) .nil)))) (.nm 1) (.seq (.var 0)) .no [1]))))) .nil)
def F_are_heights : Fn := ⟨1, 2, false, false, L_are_heights⟩
def L_is_gate : MSs := (.cons (.ife (.orv (.nt (.isi (.var 0) .tuple)) (.orv (.cmp .ne (.blt .len (.var 0)) (.con (.int 3))) (.nt (.call 1 (.cons (.ix (.var 0) (.con (.int 0))) (.cons (.con (.int 0)) (.cons (.bin .sub (.var 1) (.con (.int 1))) .nil))))))) (.cons (.ret (.con (.bool false))) .nil) .nil) (.cons (.ret (.andv (.call 1 (.cons (.ix (.var 0) (.con (.int 1))) (.cons (.con (.int 1)) (.cons (.con (.int 9)) .nil)))) (.isi (.ix (.var 0) (.con (.int 2))) .bool))) .nil))
def F_is_gate : Fn := ⟨2, 2, false, false, L_is_gate⟩
def L_is_land : MSs := (.cons (.ife (.orv (.nt (.isi (.var 0) .tuple)) (.orv (.cmp .ne (.blt .len (.var 0)) (.con (.int 3))) (.nt (.call 2 (.cons (.ix (.var 0) (.con (.int 0))) .nil))))) (.cons (.ret (.con (.bool false))) .nil) .nil) (.cons (.asg (.tp [(.nm 1), (.nm 2), (.nm 3)]) (.var 0)) (.cons (.ife (.orv (.nt (.isi (.var 2) .tuple)) (.orv (.cmp .gt (.blt .len (.var 2)) (.con (.int 3))) (.nt (.blt .all (.comp (.call 3 (.cons (.var 4) (.cons (.blt .len (.var 1)) .nil))) (.nm 4) (.seq (.var 2)) .no [4]))))) (.cons (.ret (.con (.bool false))) .nil) .nil) (.cons (.ife (.nt (.blt .all (.comp (.cmp .lt (.ix (.var 5) (.con (.int 0))) (.ix (.var 6) (.con (.int 0)))) (.tp [(.nm 5), (.nm 6)]) (.zip (.var 2) (.sl (.var 2) (.so (.con (.int 1))) .no)) .no [5, 6]))) (.cons (.ret (.con (.bool false))) .nil) .nil) (.cons (.ife (.orv (.nt (.isi (.var 3) .tuple)) (.orv (.cmp .ne (.blt .len (.var 3)) (.con (.int 2))) (.nt (.blt .all (.comp (.call 1 (.cons (.var 7) (.cons (.con (.int 0)) (.cons (.bin .sub (.blt .len (.var 1)) (.con (.int 1))) .nil)))) (.nm 7) (.seq (.var 3)) .no [7]))))) (.cons (.ret (.con (.bool false))) .nil) .nil) (.cons (.ret (.cmp .le (.ix (.var 3) (.con (.int 0))) (.ix (.var 3) (.con (.int 1))))) .nil))))))
def F_is_land : Fn := ⟨1, 8, false, false, L_is_land⟩
def L_is_step : MSs := (.cons (.ife (.orv (.nt (.isi (.var 1) .tuple)) (.orv (.nt (.chain .le .le (.con (.int 2)) (.blt .len (.var 1)) (.con (.int 3)))) (.nt (.isi (.ix (.var 1) (.con (.int 0))) .str)))) (.cons (.ret (.con (.bool false))) .nil) .nil) (.cons (.ife (.cmp .eq (.blt .len (.var 1)) (.con (.int 3))) (.cons (.ret (.andv (.cmp .eq (.ix (.var 1) (.con (.int 0))) (.con (.str "wait"))) (.andv (.call 1 (.cons (.ix (.var 1) (.con (.int 1))) (.cons (.con (.int 0)) (.cons (.bin .sub (.blt .len (.ix (.var 0) (.con (.int 0)))) (.con (.int 1))) .nil)))) (.call 1 (.cons (.ix (.var 1) (.con (.int 2))) (.cons (.con (.int 0)) (.cons (.con (.int 20)) .nil))))))) .nil) .nil) (.cons (.ret (.andv (.cmp .isin (.ix (.var 1) (.con (.int 0))) (.tup (.cons (.con (.str "open")) (.cons (.con (.str "shut")) .nil)))) (.call 1 (.cons (.ix (.var 1) (.con (.int 1))) (.cons (.con (.int 0)) (.cons (.bin .sub (.blt .len (.ix (.var 0) (.con (.int 1)))) (.con (.int 1))) .nil)))))) .nil)))
def F_is_step : Fn := ⟨2, 2, false, false, L_is_step⟩
def L_fits_script : MSs := (.cons (.ife (.orv (.nt (.isi (.var 1) .tuple)) (.cmp .gt (.blt .len (.var 1)) (.gcon 0))) (.cons (.ret (.con (.bool false))) .nil) .nil) (.cons (.ret (.blt .all (.comp (.call 5 (.cons (.var 0) (.cons (.var 2) .nil))) (.nm 2) (.seq (.var 1)) .no [2]))) .nil))
def F_fits_script : Fn := ⟨2, 3, false, false, L_fits_script⟩
def L_divisor_of : MSs := (.cons (.par 0 1 (.blt .abs (.var 0)) (.blt .abs (.var 1))) (.cons (.whil (.cmp .ne (.var 1) (.con (.int 0))) (.cons (.par 0 1 (.var 1) (.bin .mod (.var 0) (.var 1))) .nil)) (.cons (.ret (.var 0)) .nil)))
def F_divisor_of : Fn := ⟨2, 2, false, false, L_divisor_of⟩
def L_is_amount : MSs := (.cons (.ife (.orv (.nt (.isi (.var 0) .tuple)) (.orv (.cmp .ne (.blt .len (.var 0)) (.con (.int 2))) (.orv (.nt (.call 0 (.cons (.ix (.var 0) (.con (.int 0))) .nil))) (.nt (.call 0 (.cons (.ix (.var 0) (.con (.int 1))) .nil)))))) (.cons (.ret (.con (.bool false))) .nil) .nil) (.cons (.ret (.andv (.cmp .ge (.ix (.var 0) (.con (.int 0))) (.con (.int 0))) (.andv (.cmp .gt (.ix (.var 0) (.con (.int 1))) (.con (.int 0))) (.cmp .eq (.call 7 (.cons (.ix (.var 0) (.con (.int 0))) (.cons (.ix (.var 0) (.con (.int 1))) .nil))) (.con (.int 1)))))) .nil))
def F_is_amount : Fn := ⟨1, 1, false, false, L_is_amount⟩
def L_ground_of : MSs := (.cons (.asg (.nm 3) (.ix (.ix (.var 0) (.con (.int 0))) (.var 2))) (.cons (.forr (.nm 4) (.seq (.var 1)) (.cons (.asg (.nm 3) (.bin .add (.var 3) (.ite (.cmp .eq (.ix (.ix (.ix (.var 0) (.con (.int 1))) (.var 4)) (.con (.int 0))) (.var 2)) (.ix (.ix (.ix (.var 0) (.con (.int 1))) (.var 4)) (.con (.int 1))) (.con (.int 0))))) .nil)) (.cons (.ret (.var 3)) .nil)))
def F_ground_of : Fn := ⟨3, 5, false, false, L_ground_of⟩
def L_first_shut : MSs := (.cons (.ret (.blt .tuple (.comp (.var 1) (.tp [(.nm 1), (.nm 2)]) (.enum (.ix (.var 0) (.con (.int 1)))) (.so (.ix (.var 2) (.con (.int 2)))) [1, 2]))) .nil)
def F_first_shut : Fn := ⟨1, 3, false, false, L_first_shut⟩
def L_need_land : MSs := (.cons (.ife (.nt (.call 4 (.cons (.var 0) .nil))) (.cons (.raise 1) .nil) .nil) .nil)
def F_need_land : Fn := ⟨1, 1, false, false, L_need_land⟩
def L_is_script : MSs := (.cons (.expr (.call 11 (.cons (.var 0) .nil))) (.cons (.ret (.call 6 (.cons (.var 0) (.cons (.var 1) .nil)))) .nil))
def F_is_script : Fn := ⟨2, 2, false, false, L_is_script⟩
def L_grounds : MSs := (.cons (.expr (.call 11 (.cons (.var 0) .nil))) (.cons (.ret (.comp (.call 9 (.cons (.var 0) (.cons (.call 10 (.cons (.var 0) .nil)) (.cons (.var 1) .nil)))) (.nm 1) (.rng1 (.blt .len (.ix (.var 0) (.con (.int 0))))) .no [1])) .nil))
def F_grounds : Fn := ⟨1, 2, false, false, L_grounds⟩
def L_need_script : MSs := (.cons (.ife (.nt (.call 6 (.cons (.var 0) (.cons (.var 1) .nil)))) (.cons (.raise 2) .nil) .nil) .nil)
def F_need_script : Fn := ⟨2, 2, false, false, L_need_script⟩
def L_need_both : MSs := (.cons (.expr (.call 11 (.cons (.var 0) .nil))) (.cons (.expr (.call 33 (.cons (.var 0) (.cons (.var 1) .nil)))) .nil))
def F_need_both : Fn := ⟨2, 2, false, false, L_need_both⟩
def L_need_amount : MSs := (.cons (.ife (.nt (.call 8 (.cons (.var 0) .nil))) (.cons (.raise 3) .nil) .nil) .nil)
def F_need_amount : Fn := ⟨1, 1, false, false, L_need_amount⟩
def L_lowest : MSs := (.cons (.asg (.nm 2) (.call 7 (.cons (.var 0) (.cons (.var 1) .nil)))) (.cons (.ret (.tup (.cons (.bin .fdiv (.var 0) (.var 2)) (.cons (.bin .fdiv (.var 1) (.var 2)) .nil)))) .nil))
def F_lowest : Fn := ⟨2, 3, false, false, L_lowest⟩
def L_plus : MSs := (.cons (.ret (.call 36 (.cons (.bin .add (.bin .mul (.ix (.var 0) (.con (.int 0))) (.ix (.var 1) (.con (.int 1)))) (.bin .mul (.ix (.var 1) (.con (.int 0))) (.ix (.var 0) (.con (.int 1))))) (.cons (.bin .mul (.ix (.var 0) (.con (.int 1))) (.ix (.var 1) (.con (.int 1)))) .nil)))) .nil)
def F_plus : Fn := ⟨2, 2, false, false, L_plus⟩
def L_minus : MSs := (.cons (.ret (.call 36 (.cons (.bin .sub (.bin .mul (.ix (.var 0) (.con (.int 0))) (.ix (.var 1) (.con (.int 1)))) (.bin .mul (.ix (.var 1) (.con (.int 0))) (.ix (.var 0) (.con (.int 1))))) (.cons (.bin .mul (.ix (.var 0) (.con (.int 1))) (.ix (.var 1) (.con (.int 1)))) .nil)))) .nil)
def F_minus : Fn := ⟨2, 2, false, false, L_minus⟩
def L_times : MSs := (.cons (.ret (.call 36 (.cons (.bin .mul (.ix (.var 0) (.con (.int 0))) (.ix (.var 1) (.con (.int 0)))) (.cons (.bin .mul (.ix (.var 0) (.con (.int 1))) (.ix (.var 1) (.con (.int 1)))) .nil)))) .nil)
def F_times : Fn := ⟨2, 2, false, false, L_times⟩
def L_shared : MSs := (.cons (.ret (.call 36 (.cons (.ix (.var 0) (.con (.int 0))) (.cons (.bin .mul (.ix (.var 0) (.con (.int 1))) (.var 1)) .nil)))) .nil)
def F_shared : Fn := ⟨2, 2, false, false, L_shared⟩
def L_quotient : MSs := (.cons (.ret (.call 36 (.cons (.bin .mul (.ix (.var 0) (.con (.int 0))) (.ix (.var 1) (.con (.int 1)))) (.cons (.bin .mul (.ix (.var 0) (.con (.int 1))) (.ix (.var 1) (.con (.int 0)))) .nil)))) .nil)
def F_quotient : Fn := ⟨2, 2, false, false, L_quotient⟩
def L_is_less : MSs := (.cons (.ret (.cmp .lt (.bin .mul (.ix (.var 0) (.con (.int 0))) (.ix (.var 1) (.con (.int 1)))) (.bin .mul (.ix (.var 1) (.con (.int 0))) (.ix (.var 0) (.con (.int 1)))))) .nil)
def F_is_less : Fn := ⟨2, 2, false, false, L_is_less⟩
def L_least : MSs := (.cons (.asg (.nm 1) (.ix (.var 0) (.con (.int 0)))) (.cons (.forr (.nm 2) (.seq (.var 0)) (.cons (.asg (.nm 1) (.ite (.call 42 (.cons (.var 2) (.cons (.var 1) .nil))) (.var 2) (.var 1))) .nil)) (.cons (.ret (.var 1)) .nil)))
def F_least : Fn := ⟨1, 3, false, false, L_least⟩
def L_runs_of : MSs := (.cons (.asgO 1 (.lst .nil)) (.cons (.forr (.nm 2) (.rng1 (.blt .len (.var 0))) (.cons (.ife (.andv (.cmp .ne (.var 1) (.lst .nil)) (.cmp .eq (.ix (.var 0) (.var 2)) (.ix (.var 0) (.bin .sub (.var 2) (.con (.int 1)))))) (.cons (.setL 1 (.blt .neg (.con (.int 1))) (.tup (.cons (.ix (.ix (.var 1) (.blt .neg (.con (.int 1)))) (.con (.int 0))) (.cons (.var 2) .nil)))) .nil) (.cons (.app 1 (.tup (.cons (.var 2) (.cons (.var 2) .nil)))) .nil)) .nil)) (.cons (.ret (.var 1)) .nil)))
def F_runs_of : Fn := ⟨1, 3, false, false, L_runs_of⟩
def L_lower_sides : MSs := (.cons (.asg (.tp [(.nm 2), (.nm 3)]) (.var 1)) (.cons (.asg (.nm 4) (.ix (.var 0) (.var 2))) (.cons (.asg (.nm 5) (.ite (.orv (.cmp .eq (.var 2) (.con (.int 0))) (.call 42 (.cons (.ix (.var 0) (.bin .sub (.var 2) (.con (.int 1)))) (.cons (.var 4) .nil)))) (.lst (.cons (.bin .sub (.var 2) (.con (.int 1))) .nil)) (.lst .nil))) (.cons (.ret (.bin .add (.var 5) (.ite (.orv (.cmp .eq (.bin .add (.var 3) (.con (.int 1))) (.blt .len (.var 0))) (.call 42 (.cons (.ix (.var 0) (.bin .add (.var 3) (.con (.int 1)))) (.cons (.var 4) .nil)))) (.lst (.cons (.bin .add (.var 3) (.con (.int 1))) .nil)) (.lst .nil)))) .nil))))
def F_lower_sides : Fn := ⟨2, 6, false, false, L_lower_sides⟩
def L_highest_first : MSs := (.cons (.asg (.nm 2) (.lst .nil)) (.cons (.forr (.nm 3) (.seq (.var 1)) (.cons (.asg (.nm 4) (.blt .len (.comp (.var 5) (.nm 5) (.seq (.var 2)) (.so (.nt (.call 42 (.cons (.ix (.var 0) (.ix (.var 5) (.con (.int 0)))) (.cons (.ix (.var 0) (.ix (.var 3) (.con (.int 0)))) .nil))))) [5]))) (.cons (.asg (.nm 2) (.bin .add (.bin .add (.sl (.var 2) .no (.so (.var 4))) (.lst (.cons (.var 3) .nil))) (.sl (.var 2) (.so (.var 4)) .no))) .nil))) (.cons (.ret (.var 2)) .nil)))
def F_highest_first : Fn := ⟨2, 6, false, false, L_highest_first⟩
def L_run_with : MSs := (.cons (.ret (.ix (.comp (.var 2) (.nm 2) (.seq (.var 0)) (.so (.chain .le .le (.ix (.var 2) (.con (.int 0))) (.var 1) (.ix (.var 2) (.con (.int 1))))) [2]) (.con (.int 0)))) .nil)
def F_run_with : Fn := ⟨2, 3, false, false, L_run_with⟩
def L_inflows : MSs := (.cons (.asg (.nm 2) (.call 44 (.cons (.var 1) .nil))) (.cons (.dnew 3) (.cons (.forr (.nm 4) (.seq (.var 2)) (.cons (.asg (.nm 5) (.comp (.var 6) (.nm 6) (.rng2 (.ix (.var 4) (.con (.int 0))) (.bin .add (.ix (.var 4) (.con (.int 1))) (.con (.int 1)))) (.so (.chain .le .le (.ix (.ix (.var 0) (.con (.int 2))) (.con (.int 0))) (.var 6) (.ix (.ix (.var 0) (.con (.int 2))) (.con (.int 1))))) [6])) (.cons (.dset 3 (.var 4) (.tup (.cons (.blt .len (.var 5)) (.cons (.con (.int 1)) .nil)))) .nil))) (.cons (.forr (.nm 4) (.seq (.call 46 (.cons (.var 1) (.cons (.var 2) .nil)))) (.cons (.asg (.nm 7) (.call 45 (.cons (.var 1) (.cons (.var 4) .nil)))) (.cons (.forr (.nm 8) (.seq (.var 7)) (.cons (.ife (.chain .le .lt (.con (.int 0)) (.var 8) (.blt .len (.var 1))) (.cons (.asg (.nm 9) (.call 47 (.cons (.var 2) (.cons (.var 8) .nil)))) (.cons (.dset 3 (.var 9) (.call 37 (.cons (.dget 3 (.var 9)) (.cons (.call 40 (.cons (.dget 3 (.var 4)) (.cons (.blt .len (.var 7)) .nil))) .nil)))) .nil)) .nil) .nil)) .nil))) (.cons (.ret (.comp (.tup (.cons (.var 4) (.cons (.dget 3 (.var 4)) .nil))) (.nm 4) (.seq (.var 2)) .no [4])) .nil)))))
def F_inflows : Fn := ⟨2, 10, false, false, L_inflows⟩
def L_rates : MSs := (.cons (.asg (.nm 2) (.tup .nil)) (.cons (.forr (.tp [(.nm 3), (.nm 4)]) (.seq (.call 48 (.cons (.var 0) (.cons (.var 1) .nil)))) (.cons (.asg (.nm 5) (.bin .sub (.bin .add (.ix (.var 3) (.con (.int 1))) (.con (.int 1))) (.ix (.var 3) (.con (.int 0))))) (.cons (.asg (.nm 6) (.ite (.cmp .ne (.call 45 (.cons (.var 1) (.cons (.var 3) .nil))) (.lst .nil)) (.gcon 1) (.call 40 (.cons (.var 4) (.cons (.var 5) .nil))))) (.cons (.asg (.nm 2) (.bin .add (.var 2) (.bin .mul (.tup (.cons (.var 6) .nil)) (.var 5)))) .nil)))) (.cons (.ret (.var 2)) .nil)))
def F_rates : Fn := ⟨2, 7, false, false, L_rates⟩
def L_risen : MSs := (.cons (.ret (.blt .tuple (.comp (.call 37 (.cons (.var 3) (.cons (.call 39 (.cons (.var 4) (.cons (.var 2) .nil))) .nil))) (.tp [(.nm 3), (.nm 4)]) (.zip (.var 0) (.var 1)) .no [3, 4]))) .nil)
def F_risen : Fn := ⟨3, 5, false, false, L_risen⟩
def L_ground_at : MSs := (.cons (.ret (.tup (.cons (.call 9 (.cons (.var 0) (.cons (.ix (.var 1) (.con (.int 2))) (.cons (.var 2) .nil)))) (.cons (.con (.int 1)) .nil)))) .nil)
def F_ground_at : Fn := ⟨3, 3, false, false, L_ground_at⟩
def L_is_wet : MSs := (.cons (.ret (.call 42 (.cons (.call 51 (.cons (.var 0) (.cons (.var 1) (.cons (.var 2) .nil)))) (.cons (.ix (.ix (.var 1) (.con (.int 1))) (.var 2)) .nil)))) .nil)
def F_is_wet : Fn := ⟨3, 3, false, false, L_is_wet⟩
def L_comes_late : MSs := (.cons (.asg (.nm 4) (.ix (.ix (.ix (.var 0) (.con (.int 1))) (.var 2)) (.con (.int 0)))) (.cons (.ife (.call 52 (.cons (.var 0) (.cons (.var 1) (.cons (.var 4) .nil)))) (.cons (.ret (.con (.bool true))) .nil) .nil) (.cons (.ife (.var 3) (.cons (.ret (.con (.bool false))) .nil) .nil) (.cons (.asg (.nm 5) (.comp (.var 6) (.nm 6) (.seq (.tup (.cons (.bin .sub (.var 4) (.con (.int 1))) (.cons (.bin .add (.var 4) (.con (.int 1))) .nil)))) (.so (.andv (.chain .le .lt (.con (.int 0)) (.var 6) (.blt .len (.ix (.var 0) (.con (.int 0))))) (.call 52 (.cons (.var 0) (.cons (.var 1) (.cons (.var 6) .nil)))))) [6])) (.cons (.ret (.blt .any (.comp (.call 42 (.cons (.tup (.cons (.ix (.ix (.var 0) (.con (.int 0))) (.var 4)) (.cons (.con (.int 1)) .nil))) (.cons (.ix (.ix (.var 1) (.con (.int 1))) (.var 6)) .nil))) (.nm 6) (.seq (.var 5)) .no [6]))) .nil)))))
def F_comes_late : Fn := ⟨4, 7, false, false, L_comes_late⟩
def L_turned : MSs := (.cons (.asg (.tp [(.nm 4), (.nm 5), (.nm 6), (.nm 7), (.nm 8)]) (.var 1)) (.cons (.asg (.nm 9) (.ix (.ix (.ix (.var 0) (.con (.int 1))) (.var 2)) (.con (.int 0)))) (.cons (.asg (.nm 10) (.ite (.var 3) (.blt .tuple (.blt .sorted (.bin .add (.var 6) (.tup (.cons (.var 2) .nil))))) (.blt .tuple (.comp (.var 11) (.nm 11) (.seq (.var 6)) (.so (.cmp .ne (.var 11) (.var 2))) [11])))) (.cons (.asg (.nm 12) (.tup (.cons (.call 9 (.cons (.var 0) (.cons (.var 10) (.cons (.var 9) .nil)))) (.cons (.con (.int 1)) .nil)))) (.cons (.ret (.tup (.cons (.var 4) (.cons (.bin .add (.bin .add (.sl (.var 5) .no (.so (.var 9))) (.tup (.cons (.var 12) .nil))) (.sl (.var 5) (.so (.bin .add (.var 9) (.con (.int 1)))) .no)) (.cons (.var 10) (.cons (.var 7) (.cons (.var 8) .nil))))))) .nil)))))
def F_turned : Fn := ⟨4, 13, false, false, L_turned⟩
def L_stepped : MSs := (.cons (.whil (.andv (.cmp .lt (.ix (.var 2) (.con (.int 3))) (.blt .len (.var 1))) (.nt (.ix (.var 2) (.con (.int 4))))) (.cons (.par 3 4 (.ix (.var 1) (.ix (.var 2) (.con (.int 3)))) (.bin .add (.ix (.var 2) (.con (.int 3))) (.con (.int 1)))) (.cons (.ife (.cmp .eq (.ix (.var 3) (.con (.int 0))) (.con (.str "wait"))) (.cons (.ife (.call 42 (.cons (.ix (.ix (.var 2) (.con (.int 1))) (.ix (.var 3) (.con (.int 1)))) (.cons (.tup (.cons (.ix (.var 3) (.con (.int 2))) (.cons (.con (.int 1)) .nil))) .nil))) (.cons (.ret (.var 2)) .nil) .nil) .nil) (.cons (.ife (.cmp .ne (.cmp .isin (.ix (.var 3) (.con (.int 1))) (.ix (.var 2) (.con (.int 2)))) (.cmp .eq (.ix (.var 3) (.con (.int 0))) (.con (.str "shut")))) (.cons (.ife (.call 53 (.cons (.var 0) (.cons (.var 2) (.cons (.ix (.var 3) (.con (.int 1))) (.cons (.cmp .eq (.ix (.var 3) (.con (.int 0))) (.con (.str "shut"))) .nil))))) (.cons (.ret (.bin .add (.sl (.var 2) .no (.so (.con (.int 4)))) (.tup (.cons (.con (.bool true)) .nil)))) .nil) .nil) (.cons (.asg (.nm 2) (.call 54 (.cons (.var 0) (.cons (.var 2) (.cons (.ix (.var 3) (.con (.int 1))) (.cons (.cmp .eq (.ix (.var 3) (.con (.int 0))) (.con (.str "shut"))) .nil)))))) .nil)) .nil) .nil)) (.cons (.asg (.nm 2) (.bin .add (.sl (.var 2) .no (.so (.con (.int 3)))) (.tup (.cons (.var 4) (.cons (.con (.bool false)) .nil))))) .nil)))) (.cons (.ret (.var 2)) .nil))
def F_stepped : Fn := ⟨3, 5, false, false, L_stepped⟩
def L_waits_of : MSs := (.cons (.ife (.orv (.cmp .eq (.ix (.var 1) (.con (.int 3))) (.blt .len (.var 0))) (.ix (.var 1) (.con (.int 4)))) (.cons (.ret (.lst .nil)) .nil) .nil) (.cons (.ret (.lst (.cons (.sl (.ix (.var 0) (.ix (.var 1) (.con (.int 3)))) (.so (.con (.int 1))) .no) .nil))) .nil))
def F_waits_of : Fn := ⟨2, 2, false, false, L_waits_of⟩
def L_times_left : MSs := (.cons (.asg (.nm 3) (.ix (.var 1) (.con (.int 1)))) (.cons (.asgO 4 (.lst .nil)) (.cons (.forr (.tp [(.nm 5), (.nm 6)]) (.seq (.call 44 (.cons (.var 3) .nil))) (.cons (.ife (.cmp .ne (.ix (.var 2) (.var 5)) (.gcon 1)) (.cons (.asg (.nm 7) (.call 43 (.cons (.lst (.cons (.ix (.var 3) (.bin .sub (.var 5) (.con (.int 1)))) (.cons (.ix (.var 3) (.bin .add (.var 6) (.con (.int 1)))) .nil))) .nil))) (.cons (.app 4 (.call 41 (.cons (.call 38 (.cons (.var 7) (.cons (.ix (.var 3) (.var 5)) .nil))) (.cons (.ix (.var 2) (.var 5)) .nil)))) .nil)) .nil) .nil)) (.cons (.forr (.tp [(.nm 8), (.nm 7)]) (.seq (.call 56 (.cons (.var 0) (.cons (.var 1) .nil)))) (.cons (.ife (.cmp .ne (.ix (.var 2) (.var 8)) (.gcon 1)) (.cons (.app 4 (.call 41 (.cons (.call 38 (.cons (.tup (.cons (.var 7) (.cons (.con (.int 1)) .nil))) (.cons (.ix (.var 3) (.var 8)) .nil))) (.cons (.ix (.var 2) (.var 8)) .nil)))) .nil) .nil) .nil)) (.cons (.ret (.var 4)) .nil)))))
def F_times_left : Fn := ⟨3, 9, false, false, L_times_left⟩
def L_begun : MSs := (.cons (.asg (.nm 3) (.blt .tuple (.comp (.tup (.cons (.call 9 (.cons (.var 0) (.cons (.var 2) (.cons (.var 4) .nil)))) (.cons (.con (.int 1)) .nil))) (.nm 4) (.rng1 (.blt .len (.ix (.var 0) (.con (.int 0))))) .no [4]))) (.cons (.ret (.call 55 (.cons (.var 0) (.cons (.var 1) (.cons (.tup (.cons (.gcon 1) (.cons (.var 3) (.cons (.var 2) (.cons (.con (.int 0)) (.cons (.con (.bool false)) .nil)))))) .nil))))) .nil))
def F_begun : Fn := ⟨3, 5, false, false, L_begun⟩
def L_course_from : MSs := (.cons (.asgO 3 (.lst .nil)) (.cons (.whil (.con (.bool true)) (.cons (.asg (.nm 4) (.call 49 (.cons (.var 0) (.cons (.ix (.var 2) (.con (.int 1))) .nil)))) (.cons (.app 3 (.tup (.cons (.var 2) (.cons (.var 4) .nil)))) (.cons (.asg (.nm 5) (.call 57 (.cons (.var 1) (.cons (.var 2) (.cons (.var 4) .nil))))) (.cons (.ife (.cmp .eq (.var 5) (.lst .nil)) (.cons (.ret (.var 3)) .nil) .nil) (.cons (.asg (.nm 6) (.call 43 (.cons (.var 5) .nil))) (.cons (.asg (.nm 7) (.bin .add (.tup (.cons (.call 37 (.cons (.ix (.var 2) (.con (.int 0))) (.cons (.var 6) .nil))) (.cons (.call 50 (.cons (.ix (.var 2) (.con (.int 1))) (.cons (.var 4) (.cons (.var 6) .nil)))) .nil))) (.sl (.var 2) (.so (.con (.int 2))) .no))) (.cons (.asg (.nm 2) (.call 55 (.cons (.var 0) (.cons (.var 1) (.cons (.var 7) .nil))))) .nil)))))))) .nil))
def F_course_from : Fn := ⟨3, 8, false, false, L_course_from⟩
def L_course : MSs := (.cons (.ret (.call 59 (.cons (.var 0) (.cons (.var 1) (.cons (.call 58 (.cons (.var 0) (.cons (.var 1) (.cons (.call 10 (.cons (.var 0) .nil)) .nil)))) .nil))))) .nil)
def F_course : Fn := ⟨2, 2, false, false, L_course⟩
def L_state_then : MSs := (.cons (.asg (.tp [(.nm 2), (.nm 3)]) (.ix (.comp (.var 4) (.nm 4) (.seq (.var 0)) (.so (.nt (.call 42 (.cons (.var 1) (.cons (.ix (.ix (.var 4) (.con (.int 0))) (.con (.int 0))) .nil))))) [4]) (.blt .neg (.con (.int 1))))) (.cons (.ret (.bin .add (.tup (.cons (.var 1) (.cons (.call 50 (.cons (.ix (.var 2) (.con (.int 1))) (.cons (.var 3) (.cons (.call 38 (.cons (.var 1) (.cons (.ix (.var 2) (.con (.int 0))) .nil))) .nil)))) .nil))) (.sl (.var 2) (.so (.con (.int 2))) .no))) .nil))
def F_state_then : Fn := ⟨2, 5, false, false, L_state_then⟩
def L_at_amount : MSs := (.cons (.ret (.call 61 (.cons (.call 60 (.cons (.var 0) (.cons (.var 1) .nil))) (.cons (.var 2) .nil)))) .nil)
def F_at_amount : Fn := ⟨3, 3, false, false, L_at_amount⟩
def L_wet_at : MSs := (.cons (.ret (.comp (.var 2) (.nm 2) (.rng1 (.blt .len (.ix (.var 0) (.con (.int 0))))) (.so (.call 52 (.cons (.var 0) (.cons (.var 1) (.cons (.var 2) .nil))))) [2])) .nil)
def F_wet_at : Fn := ⟨2, 3, false, false, L_wet_at⟩
def L_need_all : MSs := (.cons (.expr (.call 34 (.cons (.var 0) (.cons (.var 1) .nil)))) (.cons (.expr (.call 35 (.cons (.var 2) .nil))) .nil))
def F_need_all : Fn := ⟨3, 3, false, false, L_need_all⟩
def L_surfaces : MSs := (.cons (.expr (.call 64 (.cons (.var 0) (.cons (.var 1) (.cons (.var 2) .nil))))) (.cons (.ret (.blt .list (.ix (.call 62 (.cons (.var 0) (.cons (.var 1) (.cons (.var 2) .nil)))) (.con (.int 1))))) .nil))
def F_surfaces : Fn := ⟨3, 3, false, false, L_surfaces⟩
def L_wet : MSs := (.cons (.expr (.call 64 (.cons (.var 0) (.cons (.var 1) (.cons (.var 2) .nil))))) (.cons (.ret (.call 63 (.cons (.var 0) (.cons (.call 62 (.cons (.var 0) (.cons (.var 1) (.cons (.var 2) .nil)))) .nil)))) .nil))
def F_wet : Fn := ⟨3, 3, false, false, L_wet⟩
def L_word_of : MSs := (.cons (.ife (.cmp .eq (.var 2) (.gcon 1)) (.cons (.ret (.con (.str "still"))) .nil) .nil) (.cons (.asg (.nm 3) (.call 45 (.cons (.var 0) (.cons (.var 1) .nil)))) (.cons (.ife (.cmp .eq (.blt .len (.var 3)) (.con (.int 2))) (.cons (.ret (.con (.str "both"))) .nil) .nil) (.cons (.ret (.ite (.cmp .eq (.var 3) (.lst .nil)) (.con (.str "rises")) (.ite (.cmp .lt (.ix (.var 3) (.con (.int 0))) (.ix (.var 1) (.con (.int 0)))) (.con (.str "left")) (.con (.str "right"))))) .nil))))
def F_word_of : Fn := ⟨3, 4, false, false, L_word_of⟩
def L_runs : MSs := (.cons (.expr (.call 64 (.cons (.var 0) (.cons (.var 1) (.cons (.var 2) .nil))))) (.cons (.asg (.nm 3) (.ix (.call 62 (.cons (.var 0) (.cons (.var 1) (.cons (.var 2) .nil)))) (.con (.int 1)))) (.cons (.ret (.comp (.tup (.cons (.ix (.var 4) (.con (.int 0))) (.cons (.ix (.var 4) (.con (.int 1))) (.cons (.call 67 (.cons (.var 3) (.cons (.var 4) (.cons (.var 5) .nil)))) .nil)))) (.tp [(.nm 4), (.nm 5)]) (.seq (.call 48 (.cons (.var 0) (.cons (.var 3) .nil)))) .no [4, 5])) .nil)))
def F_runs : Fn := ⟨3, 6, false, false, L_runs⟩
def L_steps_done : MSs := (.cons (.expr (.call 64 (.cons (.var 0) (.cons (.var 1) (.cons (.var 2) .nil))))) (.cons (.ret (.sl (.call 62 (.cons (.var 0) (.cons (.var 1) (.cons (.var 2) .nil)))) (.so (.con (.int 3))) .no)) .nil))
def F_steps_done : Fn := ⟨3, 3, false, false, L_steps_done⟩
def L_need_number : MSs := (.cons (.ife (.nt (.call 1 (.cons (.var 0) (.cons (.var 1) (.cons (.var 2) .nil))))) (.cons (.raise 4) .nil) .nil) .nil)
def F_need_number : Fn := ⟨3, 3, false, false, L_need_number⟩
def L_pieces_of : MSs := (.cons (.asg (.nm 1) (.bin .add (.comp (.ix (.var 2) (.con (.int 0))) (.tp [(.nm 2), (.nm 3)]) (.seq (.sl (.var 0) (.so (.con (.int 1))) .no)) .no [2, 3]) (.lst (.cons (.gcon 2) .nil)))) (.cons (.ret (.comp (.tup (.cons (.var 2) (.cons (.var 3) (.cons (.var 4) .nil)))) (.tp [(.tp [(.nm 2), (.nm 3)]), (.nm 4)]) (.zip (.var 0) (.var 1)) .no [2, 3, 4])) .nil))
def F_pieces_of : Fn := ⟨1, 5, false, false, L_pieces_of⟩
def L_line_of : MSs := (.cons (.asg (.nm 3) (.ix (.var 1) (.var 2))) (.cons (.ret (.tup (.cons (.call 38 (.cons (.ix (.ix (.var 0) (.con (.int 1))) (.var 2)) (.cons (.call 39 (.cons (.var 3) (.cons (.ix (.var 0) (.con (.int 0))) .nil))) .nil))) (.cons (.var 3) .nil)))) .nil))
def F_line_of : Fn := ⟨3, 4, false, false, L_line_of⟩
def L_form_of : MSs := (.cons (.asg (.tp [(.nm 1), (.nm 2)]) (.var 0)) (.cons (.asg (.nm 3) (.bin .fdiv (.bin .mul (.ix (.var 1) (.con (.int 1))) (.ix (.var 2) (.con (.int 1)))) (.call 90 (.cons (.ix (.var 1) (.con (.int 1))) (.cons (.ix (.var 2) (.con (.int 1))) .nil))))) (.cons (.ret (.tup (.cons (.bin .mul (.ix (.var 1) (.con (.int 0))) (.bin .fdiv (.var 3) (.ix (.var 1) (.con (.int 1))))) (.cons (.bin .mul (.ix (.var 2) (.con (.int 0))) (.bin .fdiv (.var 3) (.ix (.var 2) (.con (.int 1))))) (.cons (.var 3) .nil))))) .nil)))
def F_form_of : Fn := ⟨1, 4, false, false, L_form_of⟩
def L_lowest_common : MSs := (.cons (.ret (.bin .fdiv (.var 0) (.ix (.call 36 (.cons (.var 0) (.cons (.var 1) .nil))) (.con (.int 0))))) .nil)
def F_lowest_common : Fn := ⟨2, 2, false, false, L_lowest_common⟩
def L_level_forms : MSs := (.cons (.expr (.call 34 (.cons (.var 0) (.cons (.var 1) .nil)))) (.cons (.expr (.call 86 (.cons (.var 2) (.cons (.con (.int 0)) (.cons (.bin .sub (.blt .len (.ix (.var 0) (.con (.int 0)))) (.con (.int 1))) .nil))))) (.cons (.asgO 3 (.lst .nil)) (.cons (.forr (.tp [(.nm 4), (.nm 5), (.nm 6)]) (.seq (.call 87 (.cons (.call 60 (.cons (.var 0) (.cons (.var 1) .nil))) .nil))) (.cons (.asg (.nm 7) (.call 89 (.cons (.call 88 (.cons (.var 4) (.cons (.var 5) (.cons (.var 2) .nil)))) .nil))) (.cons (.ife (.andv (.cmp .ne (.var 3) (.lst .nil)) (.cmp .eq (.ix (.ix (.var 3) (.blt .neg (.con (.int 1)))) (.con (.int 1))) (.var 7))) (.cons (.setL 3 (.blt .neg (.con (.int 1))) (.tup (.cons (.bin .add (.sl (.ix (.ix (.var 3) (.blt .neg (.con (.int 1)))) (.con (.int 0))) .no (.so (.con (.int 2)))) (.tup (.cons (.var 6) (.cons (.con (.bool false)) .nil)))) (.cons (.var 7) .nil)))) .nil) (.cons (.app 3 (.tup (.cons (.tup (.cons (.ix (.var 4) (.con (.int 0))) (.cons (.con (.bool true)) (.cons (.var 6) (.cons (.con (.bool false)) .nil))))) (.cons (.var 7) .nil)))) .nil)) .nil))) (.cons (.ret (.var 3)) .nil)))))
def F_level_forms : Fn := ⟨3, 8, false, false, L_level_forms⟩
def L_range_of : MSs := (.cons (.asg (.tp [(.nm 1), (.nm 2)]) (.var 0)) (.cons (.ret (.tup (.cons (.var 1) (.cons (.cmp .eq (.var 1) (.var 2)) (.cons (.var 2) (.cons (.cmp .eq (.var 1) (.var 2)) .nil)))))) .nil))
def F_range_of : Fn := ⟨1, 3, false, false, L_range_of⟩
def L_joined_rows : MSs := (.cons (.asgO 1 (.lst .nil)) (.cons (.forr (.tp [(.nm 2), (.nm 3)]) (.seq (.var 0)) (.cons (.asg (.nm 4) (.call 97 (.cons (.var 2) .nil))) (.cons (.ife (.andv (.cmp .ne (.var 1) (.lst .nil)) (.cmp .eq (.ix (.ix (.var 1) (.blt .neg (.con (.int 1)))) (.con (.int 1))) (.var 3))) (.cons (.asg (.nm 5) (.ix (.ix (.var 1) (.blt .neg (.con (.int 1)))) (.con (.int 0)))) (.cons (.setL 1 (.blt .neg (.con (.int 1))) (.tup (.cons (.bin .add (.sl (.var 5) .no (.so (.con (.int 2)))) (.sl (.var 4) (.so (.con (.int 2))) .no)) (.cons (.var 3) .nil)))) .nil)) (.cons (.app 1 (.tup (.cons (.var 4) (.cons (.var 3) .nil)))) .nil)) .nil))) (.cons (.ret (.var 1)) .nil)))
def F_joined_rows : Fn := ⟨1, 6, false, false, L_joined_rows⟩
def L_in_order : MSs := (.cons (.asg (.nm 1) (.lst .nil)) (.cons (.forr (.nm 2) (.seq (.blt .sset (.var 0))) (.cons (.asg (.nm 3) (.blt .len (.comp (.var 4) (.nm 4) (.seq (.var 1)) (.so (.call 42 (.cons (.var 4) (.cons (.var 2) .nil)))) [4]))) (.cons (.asg (.nm 1) (.bin .add (.bin .add (.sl (.var 1) .no (.so (.var 3))) (.lst (.cons (.var 2) .nil))) (.sl (.var 1) (.so (.var 3)) .no))) .nil))) (.cons (.ret (.var 1)) .nil)))
def F_in_order : Fn := ⟨1, 5, false, false, L_in_order⟩
def L_parts_between : MSs := (.cons (.par 3 4 (.lst (.cons (.tup (.cons (.var 0) (.cons (.var 0) .nil))) .nil)) (.var 0)) (.cons (.forr (.nm 5) (.seq (.call 99 (.cons (.comp (.var 6) (.nm 6) (.seq (.var 2)) (.so (.andv (.call 42 (.cons (.var 0) (.cons (.var 6) .nil))) (.call 42 (.cons (.var 6) (.cons (.var 1) .nil))))) [6]) .nil))) (.cons (.asg (.nm 3) (.bin .add (.var 3) (.lst (.cons (.tup (.cons (.var 4) (.cons (.var 5) .nil))) (.cons (.tup (.cons (.var 5) (.cons (.var 5) .nil))) .nil))))) (.cons (.asg (.nm 4) (.var 5)) .nil))) (.cons (.ret (.bin .add (.var 3) (.lst (.cons (.tup (.cons (.var 4) (.cons (.var 1) .nil))) .nil)))) .nil)))
def F_parts_between : Fn := ⟨3, 7, false, false, L_parts_between⟩
def L_done_ranges : MSs := (.cons (.expr (.call 34 (.cons (.var 0) (.cons (.var 1) .nil)))) (.cons (.asg (.nm 2) (.lst .nil)) (.cons (.forr (.tp [(.nm 3), (.nm 4), (.nm 5)]) (.seq (.call 87 (.cons (.call 60 (.cons (.var 0) (.cons (.var 1) .nil))) .nil))) (.cons (.asg (.nm 2) (.bin .add (.var 2) (.comp (.tup (.cons (.var 6) (.cons (.sl (.var 3) (.so (.con (.int 3))) .no) .nil))) (.nm 6) (.seq (.call 100 (.cons (.ix (.var 3) (.con (.int 0))) (.cons (.var 5) (.cons (.lst .nil) .nil))))) .no [6]))) .nil)) (.cons (.ret (.call 98 (.cons (.var 2) .nil))) .nil))))
def F_done_ranges : Fn := ⟨2, 7, false, false, L_done_ranges⟩
def L_ranges_true : MSs := (.cons (.ret (.comp (.var 1) (.tp [(.nm 1), (.nm 2)]) (.seq (.call 98 (.cons (.var 0) .nil))) (.so (.var 2)) [1, 2])) .nil)
def F_ranges_true : Fn := ⟨1, 3, false, false, L_ranges_true⟩
def L_cut_where : MSs := (.cons (.ife (.cmp .eq (.ix (.var 1) (.var 2)) (.gcon 1)) (.cons (.ret (.lst .nil)) .nil) .nil) (.cons (.asg (.nm 4) (.call 41 (.cons (.call 38 (.cons (.var 3) (.cons (.ix (.ix (.var 0) (.con (.int 1))) (.var 2)) .nil))) (.cons (.ix (.var 1) (.var 2)) .nil)))) (.cons (.ret (.ite (.cmp .gt (.ix (.var 4) (.con (.int 0))) (.con (.int 0))) (.lst (.cons (.call 37 (.cons (.ix (.var 0) (.con (.int 0))) (.cons (.var 4) .nil))) .nil)) (.lst .nil))) .nil)))
def F_cut_where : Fn := ⟨4, 5, false, false, L_cut_where⟩
def L_middle : MSs := (.cons (.asg (.tp [(.nm 1), (.nm 2)]) (.var 0)) (.cons (.ife (.cmp .eq (.var 1) (.var 2)) (.cons (.ret (.var 1)) .nil) .nil) (.cons (.ret (.ite (.cmp .eq (.ix (.var 2) (.con (.int 1))) (.con (.int 0))) (.call 37 (.cons (.var 1) (.cons (.tup (.cons (.con (.int 1)) (.cons (.con (.int 1)) .nil))) .nil))) (.call 40 (.cons (.call 37 (.cons (.var 1) (.cons (.var 2) .nil))) (.cons (.con (.int 2)) .nil))))) .nil)))
def F_middle : Fn := ⟨1, 3, false, false, L_middle⟩
def L_wet_parts : MSs := (.cons (.asg (.nm 3) (.call 60 (.cons (.var 0) (.cons (.var 1) .nil)))) (.cons (.asgO 4 (.lst .nil)) (.cons (.forr (.tp [(.nm 5), (.nm 6), (.nm 7)]) (.seq (.call 87 (.cons (.var 3) .nil))) (.cons (.asg (.nm 8) (.call 106 (.cons (.var 5) (.cons (.var 6) (.cons (.var 2) (.cons (.call 51 (.cons (.var 0) (.cons (.var 5) (.cons (.var 2) .nil)))) .nil)))))) (.cons (.forr (.nm 9) (.seq (.call 100 (.cons (.ix (.var 5) (.con (.int 0))) (.cons (.var 7) (.cons (.var 8) .nil))))) (.cons (.app 4 (.tup (.cons (.var 9) (.cons (.call 52 (.cons (.var 0) (.cons (.call 61 (.cons (.var 3) (.cons (.call 107 (.cons (.var 9) .nil)) .nil))) (.cons (.var 2) .nil)))) .nil)))) .nil)) .nil))) (.cons (.ret (.var 4)) .nil))))
def F_wet_parts : Fn := ⟨3, 10, false, false, L_wet_parts⟩
def L_wet_ranges : MSs := (.cons (.expr (.call 34 (.cons (.var 0) (.cons (.var 1) .nil)))) (.cons (.expr (.call 86 (.cons (.var 2) (.cons (.con (.int 0)) (.cons (.bin .sub (.blt .len (.ix (.var 0) (.con (.int 0)))) (.con (.int 1))) .nil))))) (.cons (.ret (.call 105 (.cons (.call 108 (.cons (.var 0) (.cons (.var 1) (.cons (.var 2) .nil)))) .nil))) .nil)))
def F_wet_ranges : Fn := ⟨3, 3, false, false, L_wet_ranges⟩
def L_are_joined : MSs := (.cons (.ife (.orv (.nt (.call 52 (.cons (.var 0) (.cons (.var 1) (.cons (.var 2) .nil))))) (.nt (.call 52 (.cons (.var 0) (.cons (.var 1) (.cons (.var 3) .nil)))))) (.cons (.ret (.con (.bool false))) .nil) .nil) (.cons (.asg (.nm 4) (.call 44 (.cons (.ix (.var 1) (.con (.int 1))) .nil))) (.cons (.ret (.cmp .eq (.call 47 (.cons (.var 4) (.cons (.var 2) .nil))) (.call 47 (.cons (.var 4) (.cons (.var 3) .nil))))) .nil)))
def F_are_joined : Fn := ⟨4, 5, false, false, L_are_joined⟩
def L_joined : MSs := (.cons (.expr (.call 34 (.cons (.var 0) (.cons (.var 1) .nil)))) (.cons (.expr (.call 86 (.cons (.var 2) (.cons (.con (.int 0)) (.cons (.bin .sub (.blt .len (.ix (.var 0) (.con (.int 0)))) (.con (.int 1))) .nil))))) (.cons (.expr (.call 86 (.cons (.var 3) (.cons (.con (.int 0)) (.cons (.bin .sub (.blt .len (.ix (.var 0) (.con (.int 0)))) (.con (.int 1))) .nil))))) (.cons (.asg (.nm 4) (.call 60 (.cons (.var 0) (.cons (.var 1) .nil)))) (.cons (.asgO 5 (.lst .nil)) (.cons (.forr (.tp [(.nm 6), (.nm 7), (.nm 8)]) (.seq (.call 87 (.cons (.var 4) .nil))) (.cons (.asg (.nm 9) (.call 106 (.cons (.var 6) (.cons (.var 7) (.cons (.var 2) (.cons (.call 51 (.cons (.var 0) (.cons (.var 6) (.cons (.var 2) .nil)))) .nil)))))) (.cons (.asg (.nm 9) (.bin .add (.var 9) (.call 106 (.cons (.var 6) (.cons (.var 7) (.cons (.var 3) (.cons (.call 51 (.cons (.var 0) (.cons (.var 6) (.cons (.var 3) .nil)))) .nil))))))) (.cons (.forr (.nm 10) (.seq (.call 100 (.cons (.ix (.var 6) (.con (.int 0))) (.cons (.var 8) (.cons (.var 9) .nil))))) (.cons (.app 5 (.tup (.cons (.var 10) (.cons (.call 110 (.cons (.var 0) (.cons (.call 61 (.cons (.var 4) (.cons (.call 107 (.cons (.var 10) .nil)) .nil))) (.cons (.var 2) (.cons (.var 3) .nil))))) .nil)))) .nil)) .nil)))) (.cons (.ret (.call 105 (.cons (.var 5) .nil))) .nil)))))))
def F_joined : Fn := ⟨4, 11, false, false, L_joined⟩
def L_lines_then : MSs := (.cons (.asg (.tp [(.nm 3), (.nm 4), (.nm 5)]) (.ix (.comp (.var 6) (.nm 6) (.seq (.var 0)) (.so (.nt (.call 42 (.cons (.var 1) (.cons (.ix (.ix (.var 6) (.con (.int 0))) (.con (.int 0))) .nil))))) [6]) (.blt .neg (.con (.int 1))))) (.cons (.ret (.comp (.call 88 (.cons (.var 3) (.cons (.var 4) (.cons (.var 7) .nil)))) (.nm 7) (.rng1 (.var 2)) .no [7])) .nil))
def F_lines_then : Fn := ⟨3, 8, false, false, L_lines_then⟩
def L_parted_at : MSs := (.cons (.par 3 4 (.call 87 (.cons (.call 60 (.cons (.var 0) (.cons (.var 1) .nil))) .nil)) (.call 87 (.cons (.call 60 (.cons (.var 0) (.cons (.var 2) .nil))) .nil))) (.cons (.forr (.nm 5) (.seq (.call 99 (.cons (.comp (.ix (.ix (.var 6) (.con (.int 0))) (.con (.int 0))) (.nm 6) (.seq (.bin .add (.var 3) (.var 4))) .no [6]) .nil))) (.cons (.ife (.cmp .ne (.call 116 (.cons (.var 3) (.cons (.var 5) (.cons (.blt .len (.ix (.var 0) (.con (.int 0)))) .nil)))) (.call 116 (.cons (.var 4) (.cons (.var 5) (.cons (.blt .len (.ix (.var 0) (.con (.int 0)))) .nil))))) (.cons (.ret (.var 5)) .nil) .nil) .nil)) (.cons (.ret (.con .none)) .nil)))
def F_parted_at : Fn := ⟨3, 7, false, false, L_parted_at⟩
def L_need_two : MSs := (.cons (.expr (.call 34 (.cons (.var 0) (.cons (.var 1) .nil)))) (.cons (.expr (.call 33 (.cons (.var 0) (.cons (.var 2) .nil)))) .nil))
def F_need_two : Fn := ⟨3, 3, false, false, L_need_two⟩
def L_alike : MSs := (.cons (.expr (.call 118 (.cons (.var 0) (.cons (.var 1) (.cons (.var 2) .nil))))) (.cons (.ret (.cmp .is (.call 117 (.cons (.var 0) (.cons (.var 1) (.cons (.var 2) .nil)))) (.con .none))) .nil))
def F_alike : Fn := ⟨3, 3, false, false, L_alike⟩
def L_parting : MSs := (.cons (.expr (.call 118 (.cons (.var 0) (.cons (.var 1) (.cons (.var 2) .nil))))) (.cons (.ret (.call 117 (.cons (.var 0) (.cons (.var 1) (.cons (.var 2) .nil))))) .nil))
def F_parting : Fn := ⟨3, 3, false, false, L_parting⟩
def L_idle_steps : MSs := (.cons (.expr (.call 34 (.cons (.var 0) (.cons (.var 1) .nil)))) (.cons (.asgO 2 (.lst .nil)) (.cons (.forr (.nm 3) (.rng1 (.blt .len (.var 1))) (.cons (.ife (.cmp .is (.call 117 (.cons (.var 0) (.cons (.var 1) (.cons (.bin .add (.sl (.var 1) .no (.so (.var 3))) (.sl (.var 1) (.so (.bin .add (.var 3) (.con (.int 1)))) .no)) .nil)))) (.con .none)) (.cons (.app 2 (.var 3)) .nil) .nil) .nil)) (.cons (.ret (.var 2)) .nil))))
def F_idle_steps : Fn := ⟨2, 4, false, false, L_idle_steps⟩
def L_dry_in : MSs := (.cons (.forr (.tp [(.nm 3), (.nm 4), (.nm 5)]) (.seq (.call 87 (.cons (.var 1) .nil))) (.cons (.ife (.cmp .gt (.ix (.ix (.var 4) (.var 2)) (.con (.int 0))) (.con (.int 0))) (.cons (.asg (.nm 6) (.call 106 (.cons (.var 3) (.cons (.var 4) (.cons (.var 2) (.cons (.call 51 (.cons (.var 0) (.cons (.var 3) (.cons (.var 2) .nil)))) .nil)))))) (.cons (.ret (.ite (.cmp .ne (.var 6) (.lst .nil)) (.ix (.var 6) (.con (.int 0))) (.ix (.var 3) (.con (.int 0))))) .nil)) .nil) (.cons (.ife (.call 52 (.cons (.var 0) (.cons (.var 3) (.cons (.var 2) .nil)))) (.cons (.ret (.ix (.var 3) (.con (.int 0)))) .nil) .nil) .nil))) (.cons (.ret (.con .none)) .nil))
def F_dry_in : Fn := ⟨3, 7, false, false, L_dry_in⟩
def L_dry_until : MSs := (.cons (.expr (.call 34 (.cons (.var 0) (.cons (.var 1) .nil)))) (.cons (.expr (.call 86 (.cons (.var 2) (.cons (.con (.int 0)) (.cons (.bin .sub (.blt .len (.ix (.var 0) (.con (.int 0)))) (.con (.int 1))) .nil))))) (.cons (.ret (.call 128 (.cons (.var 0) (.cons (.call 59 (.cons (.var 0) (.cons (.var 1) (.cons (.call 58 (.cons (.var 0) (.cons (.var 1) (.cons (.call 10 (.cons (.var 0) .nil)) .nil)))) .nil)))) (.cons (.var 2) .nil))))) .nil)))
def F_dry_until : Fn := ⟨3, 3, false, false, L_dry_until⟩
def L_all_lots : MSs := (.cons (.asg (.nm 1) (.lst (.cons (.tup .nil) .nil))) (.cons (.forr (.nm 2) (.rng2 (.con (.int 1)) (.bin .add (.var 0) (.con (.int 1)))) (.cons (.forr (.nm 3) (.seq (.blt .list (.var 1))) (.cons (.ife (.cmp .eq (.blt .len (.var 3)) (.bin .sub (.var 2) (.con (.int 1)))) (.cons (.asg (.nm 1) (.bin .add (.var 1) (.comp (.bin .add (.var 3) (.tup (.cons (.var 4) .nil))) (.nm 4) (.rng2 (.ite (.cmp .ne (.var 3) (.tup .nil)) (.bin .add (.ix (.var 3) (.blt .neg (.con (.int 1)))) (.con (.int 1))) (.con (.int 0))) (.var 0)) .no [4]))) .nil) .nil) .nil)) .nil)) (.cons (.ret (.var 1)) .nil)))
def F_all_lots : Fn := ⟨1, 5, false, false, L_all_lots⟩
def L_least_gates : MSs := (.cons (.expr (.call 11 (.cons (.var 0) .nil))) (.cons (.expr (.call 86 (.cons (.var 1) (.cons (.con (.int 0)) (.cons (.bin .sub (.blt .len (.ix (.var 0) (.con (.int 0)))) (.con (.int 1))) .nil))))) (.cons (.expr (.call 35 (.cons (.var 2) .nil))) (.cons (.asgO 3 (.lst .nil)) (.cons (.forr (.nm 4) (.seq (.call 132 (.cons (.blt .len (.ix (.var 0) (.con (.int 1)))) .nil))) (.cons (.ife (.nt (.blt .any (.comp (.blt .all (.comp (.cmp .isin (.var 5) (.var 4)) (.nm 5) (.seq (.var 6)) .no [5])) (.nm 6) (.seq (.var 3)) .no [6]))) (.cons (.asg (.nm 7) (.call 128 (.cons (.var 0) (.cons (.call 59 (.cons (.var 0) (.cons (.tup .nil) (.cons (.call 58 (.cons (.var 0) (.cons (.tup .nil) (.cons (.var 4) .nil)))) .nil)))) (.cons (.var 1) .nil))))) (.cons (.ife (.orv (.cmp .is (.var 7) (.con .none)) (.nt (.call 42 (.cons (.var 7) (.cons (.var 2) .nil))))) (.cons (.app 3 (.var 4)) .nil) .nil) .nil)) .nil) .nil)) (.cons (.ret (.blt .sorted (.var 3))) .nil))))))
def F_least_gates : Fn := ⟨3, 8, false, false, L_least_gates⟩
def L_is_fact : MSs := (.cons (.ife (.orv (.nt (.isi (.var 1) .tuple)) (.orv (.nt (.chain .le .le (.con (.int 2)) (.blt .len (.var 1)) (.con (.int 3)))) (.nt (.isi (.ix (.var 1) (.con (.int 0))) .str)))) (.cons (.ret (.con (.bool false))) .nil) .nil) (.cons (.ife (.andv (.cmp .eq (.blt .len (.var 1)) (.con (.int 2))) (.cmp .eq (.ix (.var 1) (.con (.int 0))) (.con (.str "done")))) (.cons (.ret (.call 1 (.cons (.ix (.var 1) (.con (.int 1))) (.cons (.con (.int 0)) (.cons (.con (.int 6)) .nil))))) .nil) .nil) (.cons (.ife (.nt (.call 1 (.cons (.ix (.var 1) (.con (.int 1))) (.cons (.con (.int 0)) (.cons (.bin .sub (.blt .len (.ix (.var 0) (.con (.int 0)))) (.con (.int 1))) .nil))))) (.cons (.ret (.con (.bool false))) .nil) .nil) (.cons (.ife (.cmp .eq (.blt .len (.var 1)) (.con (.int 2))) (.cons (.ret (.cmp .isin (.ix (.var 1) (.con (.int 0))) (.tup (.cons (.con (.str "wet")) (.cons (.con (.str "dry")) .nil))))) .nil) .nil) (.cons (.ret (.andv (.cmp .isin (.ix (.var 1) (.con (.int 0))) (.tup (.cons (.con (.str "less")) (.cons (.con (.str "same")) (.cons (.con (.str "more")) .nil))))) (.call 1 (.cons (.ix (.var 1) (.con (.int 2))) (.cons (.con (.int 0)) (.cons (.con (.int 20)) .nil)))))) .nil)))))
def F_is_fact : Fn := ⟨2, 2, false, false, L_is_fact⟩
def L_need_facts : MSs := (.cons (.expr (.call 34 (.cons (.var 0) (.cons (.var 1) .nil)))) (.cons (.ife (.orv (.nt (.isi (.var 2) .tuple)) (.orv (.cmp .gt (.blt .len (.var 2)) (.con (.int 8))) (.nt (.blt .all (.comp (.call 137 (.cons (.var 0) (.cons (.var 3) .nil))) (.nm 3) (.seq (.var 2)) .no [3]))))) (.cons (.raise 5) .nil) .nil) .nil))
def F_need_facts : Fn := ⟨3, 4, false, false, L_need_facts⟩
def L_cuts_of : MSs := (.cons (.ife (.cmp .eq (.ix (.var 3) (.con (.int 0))) (.con (.str "done"))) (.cons (.ret (.lst .nil)) .nil) .nil) (.cons (.asg (.nm 4) (.ite (.cmp .eq (.blt .len (.var 3)) (.con (.int 2))) (.call 51 (.cons (.var 0) (.cons (.var 1) (.cons (.ix (.var 3) (.con (.int 1))) .nil)))) (.tup (.cons (.ix (.var 3) (.con (.int 2))) (.cons (.con (.int 1)) .nil))))) (.cons (.ret (.call 106 (.cons (.var 1) (.cons (.var 2) (.cons (.ix (.var 3) (.con (.int 1))) (.cons (.var 4) .nil)))))) .nil)))
def F_cuts_of : Fn := ⟨4, 5, false, false, L_cuts_of⟩
def L_is_true : MSs := (.cons (.ife (.cmp .eq (.ix (.var 2) (.con (.int 0))) (.con (.str "done"))) (.cons (.ret (.cmp .eq (.ix (.var 1) (.con (.int 3))) (.ix (.var 2) (.con (.int 1))))) .nil) .nil) (.cons (.ife (.cmp .eq (.blt .len (.var 2)) (.con (.int 2))) (.cons (.ret (.cmp .eq (.call 52 (.cons (.var 0) (.cons (.var 1) (.cons (.ix (.var 2) (.con (.int 1))) .nil)))) (.cmp .eq (.ix (.var 2) (.con (.int 0))) (.con (.str "wet"))))) .nil) .nil) (.cons (.par 3 4 (.ix (.ix (.var 1) (.con (.int 1))) (.ix (.var 2) (.con (.int 1)))) (.tup (.cons (.ix (.var 2) (.con (.int 2))) (.cons (.con (.int 1)) .nil)))) (.cons (.ife (.cmp .eq (.ix (.var 2) (.con (.int 0))) (.con (.str "same"))) (.cons (.ret (.cmp .eq (.var 3) (.var 4))) .nil) .nil) (.cons (.ret (.ite (.cmp .eq (.ix (.var 2) (.con (.int 0))) (.con (.str "less"))) (.call 42 (.cons (.var 3) (.cons (.var 4) .nil))) (.call 42 (.cons (.var 4) (.cons (.var 3) .nil))))) .nil)))))
def F_is_true : Fn := ⟨3, 5, false, false, L_is_true⟩
def L_fact_rows : MSs := (.cons (.asg (.nm 4) (.call 60 (.cons (.var 0) (.cons (.var 1) .nil)))) (.cons (.asgO 5 (.lst .nil)) (.cons (.forr (.tp [(.nm 6), (.nm 7), (.nm 8)]) (.seq (.call 87 (.cons (.var 4) .nil))) (.cons (.asg (.nm 9) (.lst .nil)) (.cons (.forr (.nm 10) (.seq (.bin .add (.var 2) (.var 3))) (.cons (.asg (.nm 9) (.bin .add (.var 9) (.call 139 (.cons (.var 0) (.cons (.var 6) (.cons (.var 7) (.cons (.var 10) .nil))))))) .nil)) (.cons (.forr (.nm 11) (.seq (.call 100 (.cons (.ix (.var 6) (.con (.int 0))) (.cons (.var 8) (.cons (.var 9) .nil))))) (.cons (.asg (.nm 12) (.call 61 (.cons (.var 4) (.cons (.call 107 (.cons (.var 11) .nil)) .nil)))) (.cons (.app 5 (.tup (.cons (.var 11) (.cons (.blt .all (.comp (.call 140 (.cons (.var 0) (.cons (.var 12) (.cons (.var 10) .nil)))) (.nm 10) (.seq (.var 2)) .no [10])) (.cons (.var 12) .nil))))) .nil))) .nil)))) (.cons (.ret (.var 5)) .nil))))
def F_fact_rows : Fn := ⟨4, 13, false, false, L_fact_rows⟩
def L_amounts : MSs := (.cons (.expr (.call 138 (.cons (.var 0) (.cons (.var 1) (.cons (.var 2) .nil))))) (.cons (.ret (.call 105 (.cons (.comp (.tup (.cons (.var 3) (.cons (.var 4) .nil))) (.tp [(.nm 3), (.nm 4), (.nm 5)]) (.seq (.call 141 (.cons (.var 0) (.cons (.var 1) (.cons (.var 2) (.cons (.tup .nil) .nil)))))) .no [3, 4, 5]) .nil))) .nil))
def F_amounts : Fn := ⟨3, 6, false, false, L_amounts⟩
def L_telling : MSs := (.cons (.expr (.call 138 (.cons (.var 0) (.cons (.var 1) (.cons (.var 2) .nil))))) (.cons (.asg (.nm 3) (.blt .lrng (.blt .len (.ix (.var 0) (.con (.int 0)))))) (.cons (.asg (.nm 4) (.blt .tuple (.comp (.tup (.cons (.con (.str "wet")) (.cons (.var 5) .nil))) (.nm 5) (.seq (.var 3)) .no [5]))) (.cons (.asg (.nm 6) (.comp (.call 63 (.cons (.var 0) (.cons (.var 9) .nil))) (.tp [(.nm 7), (.nm 8), (.nm 9)]) (.seq (.call 141 (.cons (.var 0) (.cons (.var 1) (.cons (.var 2) (.cons (.var 4) .nil)))))) (.so (.var 8)) [7, 8, 9])) (.cons (.asg (.nm 10) (.lst .nil)) (.cons (.forr (.nm 5) (.seq (.var 3)) (.cons (.asg (.nm 11) (.blt .len (.comp (.var 12) (.nm 12) (.seq (.var 6)) (.so (.cmp .isin (.var 5) (.var 12))) [12]))) (.cons (.asg (.nm 10) (.bin .add (.var 10) (.ite (.chain .lt .lt (.con (.int 0)) (.var 11) (.blt .len (.var 6))) (.lst (.cons (.var 5) .nil)) (.lst .nil)))) .nil))) (.cons (.ret (.var 10)) .nil)))))))
def F_telling : Fn := ⟨3, 13, false, false, L_telling⟩
def L_need_result : MSs := (.cons (.ife (.nt (.call 4 (.cons (.var 0) .nil))) (.cons (.raise 1) .nil) .nil) .nil)
def F_need_result : Fn := ⟨1, 1, false, false, L_need_result⟩
def L_longer : MSs := (.cons (.asg (.nm 2) (.bin .add (.tup (.cons (.bin .add (.ix (.var 0) (.con (.int 0))) (.tup (.cons (.var 1) .nil))) .nil)) (.sl (.var 0) (.so (.con (.int 1))) .no))) (.cons (.expr (.call 152 (.cons (.var 2) .nil))) (.cons (.ret (.var 2)) .nil)))
def F_longer : Fn := ⟨2, 3, false, false, L_longer⟩
def L_shorter : MSs := (.cons (.expr (.call 86 (.cons (.var 1) (.cons (.con (.int 0)) (.cons (.con (.int 8)) .nil))))) (.cons (.asg (.nm 2) (.sl (.ix (.var 0) (.con (.int 0))) .no (.so (.blt2 .max (.con (.int 0)) (.bin .sub (.blt .len (.ix (.var 0) (.con (.int 0)))) (.var 1)))))) (.cons (.expr (.call 152 (.cons (.bin .add (.tup (.cons (.var 2) .nil)) (.sl (.var 0) (.so (.con (.int 1))) .no)) .nil))) (.cons (.ret (.bin .add (.tup (.cons (.var 2) .nil)) (.sl (.var 0) (.so (.con (.int 1))) .no))) .nil))))
def F_shorter : Fn := ⟨2, 3, false, false, L_shorter⟩
def L_is_wet_ever : MSs := (.cons (.asg (.tp [(.nm 1), (.nm 2)]) (.ix (.call 60 (.cons (.var 0) (.cons (.tup .nil) .nil))) (.blt .neg (.con (.int 1))))) (.cons (.ret (.cmp .ne (.call 63 (.cons (.var 0) (.cons (.var 1) .nil))) (.lst .nil))) .nil))
def F_is_wet_ever : Fn := ⟨1, 3, false, false, L_is_wet_ever⟩
def L_fallen_more : MSs := (.cons (.forr (.nm 3) (.seq (.var 2)) (.cons (.asg (.nm 1) (.call 61 (.cons (.call 59 (.cons (.var 0) (.cons (.tup .nil) (.cons (.var 1) .nil)))) (.cons (.call 37 (.cons (.ix (.var 1) (.con (.int 0))) (.cons (.var 3) .nil))) .nil)))) .nil)) (.cons (.ret (.var 1)) .nil))
def F_fallen_more : Fn := ⟨3, 4, false, false, L_fallen_more⟩
def L_set_at : MSs := (.cons (.ife (.cmp .eq (.cmp .isin (.var 2) (.ix (.var 1) (.con (.int 2)))) (.var 3)) (.cons (.ret (.var 1)) .nil) .nil) (.cons (.ife (.call 53 (.cons (.var 0) (.cons (.var 1) (.cons (.var 2) (.cons (.var 3) .nil))))) (.cons (.raise 7) .nil) .nil) (.cons (.ret (.call 54 (.cons (.var 0) (.cons (.var 1) (.cons (.var 2) (.cons (.var 3) .nil)))))) .nil)))
def F_set_at : Fn := ⟨4, 4, false, false, L_set_at⟩
def L_written : MSs := (.cons (.ret (.bin .add (.blt .str (.ix (.var 0) (.con (.int 0)))) (.ite (.cmp .ne (.ix (.var 0) (.con (.int 1))) (.con (.int 1))) (.js (.cons (.con (.str "/")) (.cons (.blt .fmt (.ix (.var 0) (.con (.int 1)))) .nil))) (.con (.str ""))))) .nil)
def F_written : Fn := ⟨1, 1, false, false, L_written⟩
def L_written_k15 : MSs := (.cons (.asgO 1 (.lst (.cons (.join (.con (.str " ")) (.bin .add (.lst (.cons (.con (.str "land")) .nil)) (.comp (.blt .str (.var 2)) (.nm 2) (.seq (.ix (.var 0) (.con (.int 0)))) .no [2]))) (.cons (.js (.cons (.con (.str "rain ")) (.cons (.blt .fmt (.ix (.ix (.var 0) (.con (.int 2))) (.con (.int 0)))) (.cons (.con (.str " ")) (.cons (.blt .fmt (.ix (.ix (.var 0) (.con (.int 2))) (.con (.int 1)))) .nil))))) .nil)))) (.cons (.forr (.tp [(.nm 3), (.nm 4), (.nm 5)]) (.seq (.ix (.var 0) (.con (.int 1)))) (.cons (.app 1 (.bin .add (.js (.cons (.con (.str "gate ")) (.cons (.blt .fmt (.var 3)) (.cons (.con (.str " ")) (.cons (.blt .fmt (.var 4)) (.cons (.con (.str " ")) .nil)))))) (.ite (.var 5) (.con (.str "shut")) (.con (.str "open"))))) .nil)) (.cons (.ret (.join (.con (.str "\n")) (.var 1))) .nil)))
def F_written_k15 : Fn := ⟨1, 6, false, false, L_written_k15⟩
def L_figures_in : MSs := (.cons (.ret (.blt .tuple (.comp (.ite (.andv (.cmp .eq (.blt .len (.var 1)) (.con (.int 1))) (.cmp .isin (.var 1) (.con (.str "0123456789")))) (.blt .int (.var 1)) (.con .none)) (.nm 1) (.seq (.var 0)) .no [1]))) .nil)
def F_figures_in : Fn := ⟨1, 2, false, false, L_figures_in⟩
def L_land_text_k16 : MSs := (.cons (.expr (.call 11 (.cons (.var 0) .nil))) (.cons (.ret (.call 176 (.cons (.var 0) .nil))) .nil))
def F_land_text_k16 : Fn := ⟨1, 1, false, false, L_land_text_k16⟩
def L_read_land_k16 : MSs := (.cons (.ife (.nt (.isi (.var 0) .str)) (.cons (.raise 6) .nil) .nil) (.cons (.asg (.nm 1) (.comp (.split (.var 2) (.con (.str " "))) (.nm 2) (.seq (.split (.var 0) (.con (.str "\n")))) .no [2])) (.cons (.ife (.cmp .lt (.blt .len (.var 1)) (.con (.int 2))) (.cons (.raise 6) .nil) .nil) (.cons (.asg (.nm 3) (.blt .tuple (.comp (.bin .add (.call 178 (.cons (.sl (.var 4) (.so (.con (.int 1))) (.so (.con (.int 3)))) .nil)) (.tup (.cons (.cmp .eq (.ix (.var 4) (.blt .neg (.con (.int 1)))) (.con (.str "shut"))) .nil))) (.nm 4) (.seq (.sl (.var 1) (.so (.con (.int 2))) .no)) .no [4]))) (.cons (.asg (.nm 5) (.tup (.cons (.call 178 (.cons (.sl (.ix (.var 1) (.con (.int 0))) (.so (.con (.int 1))) .no) .nil)) (.cons (.var 3) (.cons (.call 178 (.cons (.sl (.ix (.var 1) (.con (.int 1))) (.so (.con (.int 1))) .no) .nil)) .nil))))) (.cons (.ife (.orv (.nt (.call 4 (.cons (.var 5) .nil))) (.cmp .ne (.call 176 (.cons (.var 5) .nil)) (.var 0))) (.cons (.raise 6) .nil) .nil) (.cons (.ret (.var 5)) .nil)))))))
def F_read_land_k16 : Fn := ⟨1, 6, false, false, L_read_land_k16⟩
def L__law_flooding_right : MSs := (.cons (.ife (.orv (.nt (.call 4 (.cons (.var 1) .nil))) (.orv (.call 4 (.cons (.tup (.cons (.ix (.var 0) (.con (.int 0))) (.cons (.tup (.cons (.tup (.cons (.con (.int 5)) (.cons (.con (.int 1)) (.cons (.con (.bool true)) .nil)))) .nil)) (.cons (.tup (.cons (.con (.int 0)) (.cons (.con (.int 4)) .nil))) .nil)))) .nil)) (.orv (.nt (.call 12 (.cons (.var 1) (.cons (.var 2) .nil)))) (.call 12 (.cons (.var 0) (.cons (.var 2) .nil)))))) (.cons (.ret (.con (.bool false))) .nil) .nil) (.cons (.ife (.orv (.nt (.call 8 (.cons (.tup (.cons (.con (.int 0)) (.cons (.con (.int 1)) .nil))) .nil))) (.orv (.call 8 (.cons (.tup (.cons (.con (.int 2)) (.cons (.con (.int 4)) .nil))) .nil)) (.cmp .ne (.call 13 (.cons (.var 1) .nil)) (.lst (.cons (.con (.int 3)) (.cons (.con (.int 0)) (.cons (.con (.int 2)) (.cons (.con (.int 1)) (.cons (.con (.int 4)) .nil))))))))) (.cons (.ret (.con (.bool false))) .nil) .nil) (.cons (.ife (.cmp .ne (.call 13 (.cons (.tup (.cons (.ix (.var 0) (.con (.int 0))) (.cons (.tup (.cons (.tup (.cons (.con (.int 2)) (.cons (.con (.int 3)) (.cons (.con (.bool true)) .nil)))) .nil)) (.cons (.tup (.cons (.con (.int 0)) (.cons (.con (.int 4)) .nil))) .nil)))) .nil)) (.lst (.cons (.con (.int 3)) (.cons (.con (.int 0)) (.cons (.con (.int 5)) (.cons (.con (.int 1)) (.cons (.con (.int 4)) .nil))))))) (.cons (.ret (.con (.bool false))) .nil) .nil) (.cons (.ife (.cmp .ne (.call 65 (.cons (.var 0) (.cons (.tup .nil) (.cons (.tup (.cons (.con (.int 1)) (.cons (.con (.int 4)) .nil))) .nil)))) (.lst (.cons (.tup (.cons (.con (.int 3)) (.cons (.con (.int 1)) .nil))) (.cons (.tup (.cons (.con (.int 1)) (.cons (.con (.int 2)) .nil))) (.cons (.tup (.cons (.con (.int 2)) (.cons (.con (.int 1)) .nil))) (.cons (.tup (.cons (.con (.int 3)) (.cons (.con (.int 2)) .nil))) (.cons (.tup (.cons (.con (.int 4)) (.cons (.con (.int 1)) .nil))) .nil))))))) (.cons (.ret (.con (.bool false))) .nil) .nil) (.cons (.ife (.cmp .ne (.call 65 (.cons (.var 0) (.cons (.tup .nil) (.cons (.tup (.cons (.con (.int 1)) (.cons (.con (.int 2)) .nil))) .nil)))) (.lst (.cons (.tup (.cons (.con (.int 3)) (.cons (.con (.int 1)) .nil))) (.cons (.tup (.cons (.con (.int 1)) (.cons (.con (.int 1)) .nil))) (.cons (.tup (.cons (.con (.int 2)) (.cons (.con (.int 1)) .nil))) (.cons (.tup (.cons (.con (.int 2)) (.cons (.con (.int 1)) .nil))) (.cons (.tup (.cons (.con (.int 4)) (.cons (.con (.int 1)) .nil))) .nil))))))) (.cons (.ret (.con (.bool false))) .nil) .nil) (.cons (.ife (.cmp .ne (.call 65 (.cons (.var 0) (.cons (.tup .nil) (.cons (.tup (.cons (.con (.int 1)) (.cons (.con (.int 1)) .nil))) .nil)))) (.lst (.cons (.tup (.cons (.con (.int 3)) (.cons (.con (.int 1)) .nil))) (.cons (.tup (.cons (.con (.int 7)) (.cons (.con (.int 3)) .nil))) (.cons (.tup (.cons (.con (.int 7)) (.cons (.con (.int 3)) .nil))) (.cons (.tup (.cons (.con (.int 7)) (.cons (.con (.int 3)) .nil))) (.cons (.tup (.cons (.con (.int 4)) (.cons (.con (.int 1)) .nil))) .nil))))))) (.cons (.ret (.con (.bool false))) .nil) .nil) (.cons (.ife (.cmp .ne (.call 65 (.cons (.var 0) (.cons (.tup .nil) (.cons (.tup (.cons (.con (.int 9)) (.cons (.con (.int 1)) .nil))) .nil)))) (.lst (.cons (.tup (.cons (.con (.int 3)) (.cons (.con (.int 1)) .nil))) (.cons (.tup (.cons (.con (.int 3)) (.cons (.con (.int 1)) .nil))) (.cons (.tup (.cons (.con (.int 3)) (.cons (.con (.int 1)) .nil))) (.cons (.tup (.cons (.con (.int 3)) (.cons (.con (.int 1)) .nil))) (.cons (.tup (.cons (.con (.int 4)) (.cons (.con (.int 1)) .nil))) .nil))))))) (.cons (.ret (.con (.bool false))) .nil) .nil) (.cons (.ife (.orv (.cmp .ne (.call 66 (.cons (.var 0) (.cons (.tup .nil) (.cons (.tup (.cons (.con (.int 3)) (.cons (.con (.int 4)) .nil))) .nil)))) (.lst (.cons (.con (.int 1)) (.cons (.con (.int 3)) .nil)))) (.cmp .ne (.call 66 (.cons (.var 0) (.cons (.tup .nil) (.cons (.tup (.cons (.con (.int 1)) (.cons (.con (.int 1)) .nil))) .nil)))) (.lst (.cons (.con (.int 1)) (.cons (.con (.int 2)) (.cons (.con (.int 3)) .nil)))))) (.cons (.ret (.con (.bool false))) .nil) .nil) (.cons (.asg (.nm 4) (.lst (.cons (.tup (.cons (.con (.int 0)) (.cons (.con (.int 0)) (.cons (.con (.str "both")) .nil)))) (.cons (.tup (.cons (.con (.int 1)) (.cons (.con (.int 1)) (.cons (.con (.str "rises")) .nil)))) (.cons (.tup (.cons (.con (.int 2)) (.cons (.con (.int 3)) (.cons (.con (.str "left")) .nil)))) (.cons (.tup (.cons (.con (.int 4)) (.cons (.con (.int 4)) (.cons (.con (.str "both")) .nil)))) .nil)))))) (.cons (.ife (.orv (.cmp .ne (.call 68 (.cons (.var 0) (.cons (.tup .nil) (.cons (.tup (.cons (.con (.int 1)) (.cons (.con (.int 2)) .nil))) .nil)))) (.var 4)) (.cmp .ne (.call 68 (.cons (.var 0) (.cons (.tup .nil) (.cons (.tup (.cons (.con (.int 2)) (.cons (.con (.int 1)) .nil))) .nil)))) (.lst (.cons (.tup (.cons (.con (.int 0)) (.cons (.con (.int 3)) (.cons (.con (.str "left")) .nil)))) (.cons (.tup (.cons (.con (.int 4)) (.cons (.con (.int 4)) (.cons (.con (.str "both")) .nil)))) .nil))))) (.cons (.ret (.con (.bool false))) .nil) .nil) (.cons (.ife (.cmp .ne (.call 65 (.cons (.var 1) (.cons (.var 2) (.cons (.tup (.cons (.con (.int 1)) (.cons (.con (.int 2)) .nil))) .nil)))) (.lst (.cons (.tup (.cons (.con (.int 3)) (.cons (.con (.int 1)) .nil))) (.cons (.tup (.cons (.con (.int 1)) (.cons (.con (.int 1)) .nil))) (.cons (.tup (.cons (.con (.int 5)) (.cons (.con (.int 1)) .nil))) (.cons (.tup (.cons (.con (.int 2)) (.cons (.con (.int 1)) .nil))) (.cons (.tup (.cons (.con (.int 4)) (.cons (.con (.int 1)) .nil))) .nil))))))) (.cons (.ret (.con (.bool false))) .nil) .nil) (.cons (.ife (.orv (.cmp .ne (.call 69 (.cons (.var 1) (.cons (.var 2) (.cons (.tup (.cons (.con (.int 1)) (.cons (.con (.int 4)) .nil))) .nil)))) (.tup (.cons (.con (.int 0)) (.cons (.con (.bool false)) .nil)))) (.cmp .ne (.call 69 (.cons (.var 1) (.cons (.var 2) (.cons (.tup (.cons (.con (.int 1)) (.cons (.con (.int 2)) .nil))) .nil)))) (.tup (.cons (.con (.int 2)) (.cons (.con (.bool false)) .nil))))) (.cons (.ret (.con (.bool false))) .nil) .nil) (.cons (.ret (.cmp .eq (.call 69 (.cons (.var 1) (.cons (.var 3) (.cons (.tup (.cons (.con (.int 3)) (.cons (.con (.int 2)) .nil))) .nil)))) (.tup (.cons (.con (.int 1)) (.cons (.con (.bool true)) .nil))))) .nil)))))))))))))
def F__law_flooding_right : Fn := ⟨4, 5, false, false, L__law_flooding_right⟩
def L__law_ranges_right_k16 : MSs := (.cons (.asg (.nm 5) (.lst (.cons (.tup (.cons (.tup (.cons (.tup (.cons (.con (.int 0)) (.cons (.con (.int 1)) .nil))) (.cons (.con (.bool true)) (.cons (.tup (.cons (.con (.int 1)) (.cons (.con (.int 2)) .nil))) (.cons (.con (.bool false)) .nil))))) (.cons (.tup (.cons (.con (.int 0)) (.cons (.con (.int 2)) (.cons (.con (.int 1)) .nil)))) .nil))) (.cons (.tup (.cons (.tup (.cons (.tup (.cons (.con (.int 1)) (.cons (.con (.int 2)) .nil))) (.cons (.con (.bool true)) (.cons (.tup (.cons (.con (.int 3)) (.cons (.con (.int 4)) .nil))) (.cons (.con (.bool false)) .nil))))) (.cons (.tup (.cons (.blt .neg (.con (.int 1))) (.cons (.con (.int 4)) (.cons (.con (.int 1)) .nil)))) .nil))) .nil)))) (.cons (.asg (.nm 5) (.bin .add (.var 5) (.lst (.cons (.tup (.cons (.tup (.cons (.tup (.cons (.con (.int 3)) (.cons (.con (.int 4)) .nil))) (.cons (.con (.bool true)) (.cons (.tup (.cons (.con (.int 3)) (.cons (.con (.int 2)) .nil))) (.cons (.con (.bool false)) .nil))))) (.cons (.tup (.cons (.con (.int 3)) (.cons (.con (.int 4)) (.cons (.con (.int 3)) .nil)))) .nil))) (.cons (.tup (.cons (.tup (.cons (.tup (.cons (.con (.int 3)) (.cons (.con (.int 2)) .nil))) (.cons (.con (.bool true)) (.cons (.tup (.cons (.con (.int 1)) (.cons (.con (.int 0)) .nil))) (.cons (.con (.bool false)) .nil))))) (.cons (.tup (.cons (.con (.int 3)) (.cons (.con (.int 0)) (.cons (.con (.int 1)) .nil)))) .nil))) .nil))))) (.cons (.ife (.orv (.cmp .ne (.call 91 (.cons (.var 0) (.cons (.tup .nil) (.cons (.con (.int 1)) .nil)))) (.var 5)) (.cmp .ne (.call 109 (.cons (.var 0) (.cons (.tup .nil) (.cons (.con (.int 2)) .nil)))) (.lst (.cons (.tup (.cons (.tup (.cons (.con (.int 3)) (.cons (.con (.int 4)) .nil))) (.cons (.con (.bool false)) (.cons (.tup (.cons (.con (.int 1)) (.cons (.con (.int 0)) .nil))) (.cons (.con (.bool false)) .nil))))) .nil)))) (.cons (.ret (.con (.bool false))) .nil) .nil) (.cons (.ife (.orv (.cmp .ne (.call 109 (.cons (.var 0) (.cons (.tup .nil) (.cons (.con (.int 0)) .nil)))) (.lst .nil)) (.cmp .ne (.call 111 (.cons (.var 0) (.cons (.tup .nil) (.cons (.con (.int 1)) (.cons (.con (.int 3)) .nil))))) (.lst (.cons (.tup (.cons (.tup (.cons (.con (.int 3)) (.cons (.con (.int 4)) .nil))) (.cons (.con (.bool true)) (.cons (.tup (.cons (.con (.int 1)) (.cons (.con (.int 0)) .nil))) (.cons (.con (.bool false)) .nil))))) .nil)))) (.cons (.ret (.con (.bool false))) .nil) .nil) (.cons (.asg (.nm 5) (.lst (.cons (.tup (.cons (.tup (.cons (.tup (.cons (.con (.int 0)) (.cons (.con (.int 1)) .nil))) (.cons (.con (.bool true)) (.cons (.tup (.cons (.con (.int 3)) (.cons (.con (.int 2)) .nil))) (.cons (.con (.bool false)) .nil))))) (.cons (.tup (.cons (.con (.int 1)) (.cons (.con (.int 2)) (.cons (.con (.int 1)) .nil)))) .nil))) (.cons (.tup (.cons (.tup (.cons (.tup (.cons (.con (.int 3)) (.cons (.con (.int 2)) .nil))) (.cons (.con (.bool true)) (.cons (.tup (.cons (.con (.int 1)) (.cons (.con (.int 0)) .nil))) (.cons (.con (.bool false)) .nil))))) (.cons (.tup (.cons (.con (.int 4)) (.cons (.con (.int 0)) (.cons (.con (.int 1)) .nil)))) .nil))) .nil)))) (.cons (.ife (.orv (.cmp .ne (.call 91 (.cons (.var 1) (.cons (.var 2) (.cons (.con (.int 3)) .nil)))) (.var 5)) (.orv (.cmp .ne (.call 109 (.cons (.var 1) (.cons (.var 3) (.cons (.con (.int 2)) .nil)))) (.lst .nil)) (.cmp .ne (.call 111 (.cons (.var 1) (.cons (.var 2) (.cons (.con (.int 1)) (.cons (.con (.int 3)) .nil))))) (.lst .nil)))) (.cons (.ret (.con (.bool false))) .nil) .nil) (.cons (.asg (.nm 5) (.lst (.cons (.tup (.cons (.tup (.cons (.tup (.cons (.con (.int 0)) (.cons (.con (.int 1)) .nil))) (.cons (.con (.bool true)) (.cons (.tup (.cons (.con (.int 3)) (.cons (.con (.int 2)) .nil))) (.cons (.con (.bool false)) .nil))))) (.cons (.tup (.cons (.con (.int 0)) (.cons (.con (.bool false)) .nil))) .nil))) (.cons (.tup (.cons (.tup (.cons (.tup (.cons (.con (.int 3)) (.cons (.con (.int 2)) .nil))) (.cons (.con (.bool true)) (.cons (.tup (.cons (.con (.int 1)) (.cons (.con (.int 0)) .nil))) (.cons (.con (.bool false)) .nil))))) (.cons (.tup (.cons (.con (.int 1)) (.cons (.con (.bool true)) .nil))) .nil))) .nil)))) (.cons (.ife (.orv (.cmp .ne (.call 101 (.cons (.var 1) (.cons (.var 4) .nil))) (.var 5)) (.cmp .isnot (.call 119 (.cons (.var 1) (.cons (.var 4) (.cons (.tup .nil) .nil)))) (.con (.bool true)))) (.cons (.ret (.con (.bool false))) .nil) .nil) (.cons (.ife (.orv (.cmp .ne (.call 120 (.cons (.var 1) (.cons (.var 2) (.cons (.tup .nil) .nil)))) (.tup (.cons (.con (.int 1)) (.cons (.con (.int 2)) .nil)))) (.orv (.cmp .ne (.call 120 (.cons (.var 1) (.cons (.var 2) (.cons (.var 3) .nil)))) (.tup (.cons (.con (.int 1)) (.cons (.con (.int 2)) .nil)))) (.cmp .ne (.call 120 (.cons (.var 1) (.cons (.var 3) (.cons (.tup .nil) .nil)))) (.tup (.cons (.con (.int 3)) (.cons (.con (.int 4)) .nil)))))) (.cons (.ret (.con (.bool false))) .nil) .nil) (.cons (.ret (.andv (.cmp .eq (.call 125 (.cons (.var 1) (.cons (.var 2) .nil))) (.lst .nil)) (.andv (.cmp .eq (.call 125 (.cons (.var 1) (.cons (.var 4) .nil))) (.lst (.cons (.con (.int 1)) .nil))) (.cmp .eq (.call 125 (.cons (.var 1) (.cons (.bin .add (.tup (.cons (.tup (.cons (.con (.str "open")) (.cons (.con (.int 0)) .nil))) .nil)) (.var 2)) .nil))) (.lst (.cons (.con (.int 0)) .nil)))))) .nil))))))))))
def F__law_ranges_right_k16 : Fn := ⟨5, 6, false, false, L__law_ranges_right_k16⟩
def L_law_k16 : MSs := (.cons (.asg (.nm 1) (.tup (.cons (.tup (.cons (.con (.int 3)) (.cons (.con (.int 0)) (.cons (.con (.int 2)) (.cons (.con (.int 1)) (.cons (.con (.int 4)) .nil)))))) (.cons (.tup .nil) (.cons (.tup (.cons (.con (.int 0)) (.cons (.con (.int 4)) .nil))) .nil))))) (.cons (.asg (.nm 2) (.tup (.cons (.ix (.var 1) (.con (.int 0))) (.cons (.tup (.cons (.tup (.cons (.con (.int 2)) (.cons (.con (.int 3)) (.cons (.con (.bool false)) .nil)))) .nil)) (.cons (.tup (.cons (.con (.int 0)) (.cons (.con (.int 4)) .nil))) .nil))))) (.cons (.asg (.nm 3) (.tup (.cons (.tup (.cons (.con (.int 4)) (.cons (.con (.int 1)) (.cons (.con (.int 3)) (.cons (.con (.int 0)) (.cons (.con (.int 2)) .nil)))))) (.cons (.tup (.cons (.tup (.cons (.con (.int 2)) (.cons (.con (.int 3)) (.cons (.con (.bool false)) .nil)))) .nil)) (.cons (.tup (.cons (.con (.int 0)) (.cons (.con (.int 1)) .nil))) .nil))))) (.cons (.asg (.tp [(.nm 4), (.nm 5)]) (.tup (.cons (.tup (.cons (.tup (.cons (.con (.str "wait")) (.cons (.con (.int 3)) (.cons (.con (.int 2)) .nil)))) (.cons (.tup (.cons (.con (.str "shut")) (.cons (.con (.int 0)) .nil))) .nil))) (.cons (.tup (.cons (.tup (.cons (.con (.str "wait")) (.cons (.con (.int 1)) (.cons (.con (.int 2)) .nil)))) (.cons (.tup (.cons (.con (.str "shut")) (.cons (.con (.int 0)) .nil))) .nil))) .nil)))) (.cons (.asg (.nm 6) (.tup (.cons (.tup (.cons (.con (.str "wait")) (.cons (.con (.int 1)) (.cons (.con (.int 3)) .nil)))) (.cons (.tup (.cons (.con (.str "shut")) (.cons (.con (.int 0)) .nil))) .nil)))) (.cons (.ife (.orv (.nt (.call 187 (.cons (.var 1) (.cons (.var 2) (.cons (.var 4) (.cons (.var 6) .nil)))))) (.nt (.call 188 (.cons (.var 1) (.cons (.var 2) (.cons (.var 4) (.cons (.var 5) (.cons (.var 6) .nil)))))))) (.cons (.ret (.con (.bool false))) .nil) .nil) (.cons (.ret (.andv (.call 189 (.cons (.var 1) (.cons (.var 2) (.cons (.var 3) (.cons (.var 4) (.cons (.var 5) .nil)))))) (.call 190 (.cons (.var 2) .nil)))) .nil)))))))
def F_law_k16 : Fn := ⟨1, 7, false, false, L_law_k16⟩
def GT0 : List (Option Fn) := [some F_is_plain, some F_is_whole, some F_are_heights, some F_is_gate, some F_is_land, some F_is_step, some F_fits_script, some F_divisor_of, some F_is_amount, some F_ground_of, some F_first_shut, some F_need_land, some F_is_script, some F_grounds, none, none, none, none, none, none]
def GT1 : List (Option Fn) := [none, none, none, none, none, none, none, none, none, none, none, none, none, some F_need_script, some F_need_both, some F_need_amount, some F_lowest, some F_plus, some F_minus, some F_times]
def GT2 : List (Option Fn) := [some F_shared, some F_quotient, some F_is_less, some F_least, some F_runs_of, some F_lower_sides, some F_highest_first, some F_run_with, some F_inflows, some F_rates, some F_risen, some F_ground_at, some F_is_wet, some F_comes_late, some F_turned, some F_stepped, some F_waits_of, some F_times_left, some F_begun, some F_course_from]
def GT3 : List (Option Fn) := [some F_course, some F_state_then, some F_at_amount, some F_wet_at, some F_need_all, some F_surfaces, some F_wet, some F_word_of, some F_runs, some F_steps_done, none, none, none, none, none, none, none, none, none, none]
def GT4 : List (Option Fn) := [none, none, none, none, none, none, some F_need_number, some F_pieces_of, some F_line_of, some F_form_of, some F_lowest_common, some F_level_forms, none, none, none, none, none, some F_range_of, some F_joined_rows, some F_in_order]
def GT5 : List (Option Fn) := [some F_parts_between, some F_done_ranges, none, none, none, some F_ranges_true, some F_cut_where, some F_middle, some F_wet_parts, some F_wet_ranges, some F_are_joined, some F_joined, none, none, none, none, some F_lines_then, some F_parted_at, some F_need_two, some F_alike]
def GT6 : List (Option Fn) := [some F_parting, none, none, none, none, some F_idle_steps, none, none, some F_dry_in, some F_dry_until, none, none, some F_all_lots, some F_least_gates, none, none, none, some F_is_fact, some F_need_facts, some F_cuts_of]
def GT7 : List (Option Fn) := [some F_is_true, some F_fact_rows, some F_amounts, some F_telling, none, none, none, none, none, none, none, none, some F_need_result, some F_longer, some F_shorter, some F_is_wet_ever, none, none, none, some F_fallen_more]
def GT8 : List (Option Fn) := [some F_set_at, some F_written, none, none, none, none, none, none, none, none, none, none, none, none, none, none, some F_written_k15, none, some F_figures_in, none]
def GT9 : List (Option Fn) := [none, none, none, none, none, some F_land_text_k16, some F_read_land_k16, some F__law_flooding_right, some F__law_ranges_right_k16, none, none, some F_law_k16]
def GT : List (Option Fn) := GT0 ++ GT1 ++ GT2 ++ GT3 ++ GT4 ++ GT5 ++ GT6 ++ GT7 ++ GT8 ++ GT9
/-- the error classes, and what isinstance tells of them -/
def ens0 : List (Str × List Bool) := [("RainError", [false, false, false, false, false, false, false, false, true]), ("InvalidLand", [true, false, false, false, false, false, false, false, true]), ("InvalidScript", [false, true, false, false, false, false, false, false, true]), ("InvalidAmount", [false, false, true, false, false, false, false, false, true]), ("InvalidNumber", [false, false, false, true, false, false, false, false, true]), ("InvalidFacts", [false, false, false, false, true, false, false, false, true]), ("InvalidText", [false, false, false, false, false, true, false, false, true]), ("TooLate", [false, false, false, false, false, false, true, false, true]), ("NothingToUndo", [false, false, false, false, false, false, false, true, true])]
def gcv (n : Nat) : D := match n with
  | 0 => .int 6
  | 1 => .tuple [.int 0, .int 1]
  | 2 => .tuple [.int 1, .int 0]
  | _ => .none
/-- the one program -/
def P0 : Prog := ⟨gcv, enOf ens0, fun _ => none, fun id => (GT[id]?).join⟩
def C0 (n : Nat) : Tab := tab P0 n
theorem run_is_plain (n : Nat) (d0 : D) : callP P0 (n + 1) 0 [d0] = fin (evSs (tab P0 n) L_is_plain [.val d0] []) := by
  rw [callP_row (g := F_is_plain) rfl rfl rfl rfl]; rfl
theorem run_is_whole (n : Nat) (d0 d1 d2 : D) : callP P0 (n + 1) 1 [d0, d1, d2] = fin (evSs (tab P0 n) L_is_whole [.val d0, .val d1, .val d2] []) := by
  rw [callP_row (g := F_is_whole) rfl rfl rfl rfl]; rfl
theorem run_are_heights (n : Nat) (d0 : D) : callP P0 (n + 1) 2 [d0] = fin (evSs (tab P0 n) L_are_heights [.val d0, .emp] []) := by
  rw [callP_row (g := F_are_heights) rfl rfl rfl rfl]; rfl
theorem run_is_gate (n : Nat) (d0 d1 : D) : callP P0 (n + 1) 3 [d0, d1] = fin (evSs (tab P0 n) L_is_gate [.val d0, .val d1] []) := by
  rw [callP_row (g := F_is_gate) rfl rfl rfl rfl]; rfl
theorem run_is_land (n : Nat) (d0 : D) : callP P0 (n + 1) 4 [d0] = fin (evSs (tab P0 n) L_is_land [.val d0, .emp, .emp, .emp, .emp, .emp, .emp, .emp] []) := by
  rw [callP_row (g := F_is_land) rfl rfl rfl rfl]; rfl
theorem run_is_step (n : Nat) (d0 d1 : D) : callP P0 (n + 1) 5 [d0, d1] = fin (evSs (tab P0 n) L_is_step [.val d0, .val d1] []) := by
  rw [callP_row (g := F_is_step) rfl rfl rfl rfl]; rfl
theorem run_fits_script (n : Nat) (d0 d1 : D) : callP P0 (n + 1) 6 [d0, d1] = fin (evSs (tab P0 n) L_fits_script [.val d0, .val d1, .emp] []) := by
  rw [callP_row (g := F_fits_script) rfl rfl rfl rfl]; rfl
theorem run_divisor_of (n : Nat) (d0 d1 : D) : callP P0 (n + 1) 7 [d0, d1] = fin (evSs (tab P0 n) L_divisor_of [.val d0, .val d1] []) := by
  rw [callP_row (g := F_divisor_of) rfl rfl rfl rfl]; rfl
theorem run_is_amount (n : Nat) (d0 : D) : callP P0 (n + 1) 8 [d0] = fin (evSs (tab P0 n) L_is_amount [.val d0] []) := by
  rw [callP_row (g := F_is_amount) rfl rfl rfl rfl]; rfl
theorem run_ground_of (n : Nat) (d0 d1 d2 : D) : callP P0 (n + 1) 9 [d0, d1, d2] = fin (evSs (tab P0 n) L_ground_of [.val d0, .val d1, .val d2, .emp, .emp] []) := by
  rw [callP_row (g := F_ground_of) rfl rfl rfl rfl]; rfl
theorem run_first_shut (n : Nat) (d0 : D) : callP P0 (n + 1) 10 [d0] = fin (evSs (tab P0 n) L_first_shut [.val d0, .emp, .emp] []) := by
  rw [callP_row (g := F_first_shut) rfl rfl rfl rfl]; rfl
theorem run_need_land (n : Nat) (d0 : D) : callP P0 (n + 1) 11 [d0] = fin (evSs (tab P0 n) L_need_land [.val d0] []) := by
  rw [callP_row (g := F_need_land) rfl rfl rfl rfl]; rfl
theorem run_is_script (n : Nat) (d0 d1 : D) : callP P0 (n + 1) 12 [d0, d1] = fin (evSs (tab P0 n) L_is_script [.val d0, .val d1] []) := by
  rw [callP_row (g := F_is_script) rfl rfl rfl rfl]; rfl
theorem run_grounds (n : Nat) (d0 : D) : callP P0 (n + 1) 13 [d0] = fin (evSs (tab P0 n) L_grounds [.val d0, .emp] []) := by
  rw [callP_row (g := F_grounds) rfl rfl rfl rfl]; rfl
theorem run_need_script (n : Nat) (d0 d1 : D) : callP P0 (n + 1) 33 [d0, d1] = fin (evSs (tab P0 n) L_need_script [.val d0, .val d1] []) := by
  rw [callP_row (g := F_need_script) rfl rfl rfl rfl]; rfl
theorem run_need_both (n : Nat) (d0 d1 : D) : callP P0 (n + 1) 34 [d0, d1] = fin (evSs (tab P0 n) L_need_both [.val d0, .val d1] []) := by
  rw [callP_row (g := F_need_both) rfl rfl rfl rfl]; rfl
theorem run_need_amount (n : Nat) (d0 : D) : callP P0 (n + 1) 35 [d0] = fin (evSs (tab P0 n) L_need_amount [.val d0] []) := by
  rw [callP_row (g := F_need_amount) rfl rfl rfl rfl]; rfl
theorem run_lowest (n : Nat) (d0 d1 : D) : callP P0 (n + 1) 36 [d0, d1] = fin (evSs (tab P0 n) L_lowest [.val d0, .val d1, .emp] []) := by
  rw [callP_row (g := F_lowest) rfl rfl rfl rfl]; rfl
theorem run_plus (n : Nat) (d0 d1 : D) : callP P0 (n + 1) 37 [d0, d1] = fin (evSs (tab P0 n) L_plus [.val d0, .val d1] []) := by
  rw [callP_row (g := F_plus) rfl rfl rfl rfl]; rfl
theorem run_minus (n : Nat) (d0 d1 : D) : callP P0 (n + 1) 38 [d0, d1] = fin (evSs (tab P0 n) L_minus [.val d0, .val d1] []) := by
  rw [callP_row (g := F_minus) rfl rfl rfl rfl]; rfl
theorem run_times (n : Nat) (d0 d1 : D) : callP P0 (n + 1) 39 [d0, d1] = fin (evSs (tab P0 n) L_times [.val d0, .val d1] []) := by
  rw [callP_row (g := F_times) rfl rfl rfl rfl]; rfl
theorem run_shared (n : Nat) (d0 d1 : D) : callP P0 (n + 1) 40 [d0, d1] = fin (evSs (tab P0 n) L_shared [.val d0, .val d1] []) := by
  rw [callP_row (g := F_shared) rfl rfl rfl rfl]; rfl
theorem run_quotient (n : Nat) (d0 d1 : D) : callP P0 (n + 1) 41 [d0, d1] = fin (evSs (tab P0 n) L_quotient [.val d0, .val d1] []) := by
  rw [callP_row (g := F_quotient) rfl rfl rfl rfl]; rfl
theorem run_is_less (n : Nat) (d0 d1 : D) : callP P0 (n + 1) 42 [d0, d1] = fin (evSs (tab P0 n) L_is_less [.val d0, .val d1] []) := by
  rw [callP_row (g := F_is_less) rfl rfl rfl rfl]; rfl
theorem run_least (n : Nat) (d0 : D) : callP P0 (n + 1) 43 [d0] = fin (evSs (tab P0 n) L_least [.val d0, .emp, .emp] []) := by
  rw [callP_row (g := F_least) rfl rfl rfl rfl]; rfl
theorem run_runs_of (n : Nat) (d0 : D) : callP P0 (n + 1) 44 [d0] = fin (evSs (tab P0 n) L_runs_of [.val d0, .emp, .emp] []) := by
  rw [callP_row (g := F_runs_of) rfl rfl rfl rfl]; rfl
theorem run_lower_sides (n : Nat) (d0 d1 : D) : callP P0 (n + 1) 45 [d0, d1] = fin (evSs (tab P0 n) L_lower_sides [.val d0, .val d1, .emp, .emp, .emp, .emp] []) := by
  rw [callP_row (g := F_lower_sides) rfl rfl rfl rfl]; rfl
theorem run_highest_first (n : Nat) (d0 d1 : D) : callP P0 (n + 1) 46 [d0, d1] = fin (evSs (tab P0 n) L_highest_first [.val d0, .val d1, .emp, .emp, .emp, .emp] []) := by
  rw [callP_row (g := F_highest_first) rfl rfl rfl rfl]; rfl
theorem run_run_with (n : Nat) (d0 d1 : D) : callP P0 (n + 1) 47 [d0, d1] = fin (evSs (tab P0 n) L_run_with [.val d0, .val d1, .emp] []) := by
  rw [callP_row (g := F_run_with) rfl rfl rfl rfl]; rfl
theorem run_inflows (n : Nat) (d0 d1 : D) : callP P0 (n + 1) 48 [d0, d1] = fin (evSs (tab P0 n) L_inflows [.val d0, .val d1, .emp, .emp, .emp, .emp, .emp, .emp, .emp, .emp] []) := by
  rw [callP_row (g := F_inflows) rfl rfl rfl rfl]; rfl
theorem run_rates (n : Nat) (d0 d1 : D) : callP P0 (n + 1) 49 [d0, d1] = fin (evSs (tab P0 n) L_rates [.val d0, .val d1, .emp, .emp, .emp, .emp, .emp] []) := by
  rw [callP_row (g := F_rates) rfl rfl rfl rfl]; rfl
theorem run_risen (n : Nat) (d0 d1 d2 : D) : callP P0 (n + 1) 50 [d0, d1, d2] = fin (evSs (tab P0 n) L_risen [.val d0, .val d1, .val d2, .emp, .emp] []) := by
  rw [callP_row (g := F_risen) rfl rfl rfl rfl]; rfl
theorem run_ground_at (n : Nat) (d0 d1 d2 : D) : callP P0 (n + 1) 51 [d0, d1, d2] = fin (evSs (tab P0 n) L_ground_at [.val d0, .val d1, .val d2] []) := by
  rw [callP_row (g := F_ground_at) rfl rfl rfl rfl]; rfl
theorem run_is_wet (n : Nat) (d0 d1 d2 : D) : callP P0 (n + 1) 52 [d0, d1, d2] = fin (evSs (tab P0 n) L_is_wet [.val d0, .val d1, .val d2] []) := by
  rw [callP_row (g := F_is_wet) rfl rfl rfl rfl]; rfl
theorem run_comes_late (n : Nat) (d0 d1 d2 d3 : D) : callP P0 (n + 1) 53 [d0, d1, d2, d3] = fin (evSs (tab P0 n) L_comes_late [.val d0, .val d1, .val d2, .val d3, .emp, .emp, .emp] []) := by
  rw [callP_row (g := F_comes_late) rfl rfl rfl rfl]; rfl
theorem run_turned (n : Nat) (d0 d1 d2 d3 : D) : callP P0 (n + 1) 54 [d0, d1, d2, d3] = fin (evSs (tab P0 n) L_turned [.val d0, .val d1, .val d2, .val d3, .emp, .emp, .emp, .emp, .emp, .emp, .emp, .emp, .emp] []) := by
  rw [callP_row (g := F_turned) rfl rfl rfl rfl]; rfl
theorem run_stepped (n : Nat) (d0 d1 d2 : D) : callP P0 (n + 1) 55 [d0, d1, d2] = fin (evSs (tab P0 n) L_stepped [.val d0, .val d1, .val d2, .emp, .emp] []) := by
  rw [callP_row (g := F_stepped) rfl rfl rfl rfl]; rfl
theorem run_waits_of (n : Nat) (d0 d1 : D) : callP P0 (n + 1) 56 [d0, d1] = fin (evSs (tab P0 n) L_waits_of [.val d0, .val d1] []) := by
  rw [callP_row (g := F_waits_of) rfl rfl rfl rfl]; rfl
theorem run_times_left (n : Nat) (d0 d1 d2 : D) : callP P0 (n + 1) 57 [d0, d1, d2] = fin (evSs (tab P0 n) L_times_left [.val d0, .val d1, .val d2, .emp, .emp, .emp, .emp, .emp, .emp] []) := by
  rw [callP_row (g := F_times_left) rfl rfl rfl rfl]; rfl
theorem run_begun (n : Nat) (d0 d1 d2 : D) : callP P0 (n + 1) 58 [d0, d1, d2] = fin (evSs (tab P0 n) L_begun [.val d0, .val d1, .val d2, .emp, .emp] []) := by
  rw [callP_row (g := F_begun) rfl rfl rfl rfl]; rfl
theorem run_course_from (n : Nat) (d0 d1 d2 : D) : callP P0 (n + 1) 59 [d0, d1, d2] = fin (evSs (tab P0 n) L_course_from [.val d0, .val d1, .val d2, .emp, .emp, .emp, .emp, .emp] []) := by
  rw [callP_row (g := F_course_from) rfl rfl rfl rfl]; rfl
theorem run_course (n : Nat) (d0 d1 : D) : callP P0 (n + 1) 60 [d0, d1] = fin (evSs (tab P0 n) L_course [.val d0, .val d1] []) := by
  rw [callP_row (g := F_course) rfl rfl rfl rfl]; rfl
theorem run_state_then (n : Nat) (d0 d1 : D) : callP P0 (n + 1) 61 [d0, d1] = fin (evSs (tab P0 n) L_state_then [.val d0, .val d1, .emp, .emp, .emp] []) := by
  rw [callP_row (g := F_state_then) rfl rfl rfl rfl]; rfl
theorem run_at_amount (n : Nat) (d0 d1 d2 : D) : callP P0 (n + 1) 62 [d0, d1, d2] = fin (evSs (tab P0 n) L_at_amount [.val d0, .val d1, .val d2] []) := by
  rw [callP_row (g := F_at_amount) rfl rfl rfl rfl]; rfl
theorem run_wet_at (n : Nat) (d0 d1 : D) : callP P0 (n + 1) 63 [d0, d1] = fin (evSs (tab P0 n) L_wet_at [.val d0, .val d1, .emp] []) := by
  rw [callP_row (g := F_wet_at) rfl rfl rfl rfl]; rfl
theorem run_need_all (n : Nat) (d0 d1 d2 : D) : callP P0 (n + 1) 64 [d0, d1, d2] = fin (evSs (tab P0 n) L_need_all [.val d0, .val d1, .val d2] []) := by
  rw [callP_row (g := F_need_all) rfl rfl rfl rfl]; rfl
theorem run_surfaces (n : Nat) (d0 d1 d2 : D) : callP P0 (n + 1) 65 [d0, d1, d2] = fin (evSs (tab P0 n) L_surfaces [.val d0, .val d1, .val d2] []) := by
  rw [callP_row (g := F_surfaces) rfl rfl rfl rfl]; rfl
theorem run_wet (n : Nat) (d0 d1 d2 : D) : callP P0 (n + 1) 66 [d0, d1, d2] = fin (evSs (tab P0 n) L_wet [.val d0, .val d1, .val d2] []) := by
  rw [callP_row (g := F_wet) rfl rfl rfl rfl]; rfl
theorem run_word_of (n : Nat) (d0 d1 d2 : D) : callP P0 (n + 1) 67 [d0, d1, d2] = fin (evSs (tab P0 n) L_word_of [.val d0, .val d1, .val d2, .emp] []) := by
  rw [callP_row (g := F_word_of) rfl rfl rfl rfl]; rfl
theorem run_runs (n : Nat) (d0 d1 d2 : D) : callP P0 (n + 1) 68 [d0, d1, d2] = fin (evSs (tab P0 n) L_runs [.val d0, .val d1, .val d2, .emp, .emp, .emp] []) := by
  rw [callP_row (g := F_runs) rfl rfl rfl rfl]; rfl
theorem run_steps_done (n : Nat) (d0 d1 d2 : D) : callP P0 (n + 1) 69 [d0, d1, d2] = fin (evSs (tab P0 n) L_steps_done [.val d0, .val d1, .val d2] []) := by
  rw [callP_row (g := F_steps_done) rfl rfl rfl rfl]; rfl
theorem run_need_number (n : Nat) (d0 d1 d2 : D) : callP P0 (n + 1) 86 [d0, d1, d2] = fin (evSs (tab P0 n) L_need_number [.val d0, .val d1, .val d2] []) := by
  rw [callP_row (g := F_need_number) rfl rfl rfl rfl]; rfl
theorem run_pieces_of (n : Nat) (d0 : D) : callP P0 (n + 1) 87 [d0] = fin (evSs (tab P0 n) L_pieces_of [.val d0, .emp, .emp, .emp, .emp] []) := by
  rw [callP_row (g := F_pieces_of) rfl rfl rfl rfl]; rfl
theorem run_line_of (n : Nat) (d0 d1 d2 : D) : callP P0 (n + 1) 88 [d0, d1, d2] = fin (evSs (tab P0 n) L_line_of [.val d0, .val d1, .val d2, .emp] []) := by
  rw [callP_row (g := F_line_of) rfl rfl rfl rfl]; rfl
theorem run_form_of (n : Nat) (d0 : D) : callP P0 (n + 1) 89 [d0] = fin (evSs (tab P0 n) L_form_of [.val d0, .emp, .emp, .emp] []) := by
  rw [callP_row (g := F_form_of) rfl rfl rfl rfl]; rfl
theorem run_lowest_common (n : Nat) (d0 d1 : D) : callP P0 (n + 1) 90 [d0, d1] = fin (evSs (tab P0 n) L_lowest_common [.val d0, .val d1] []) := by
  rw [callP_row (g := F_lowest_common) rfl rfl rfl rfl]; rfl
theorem run_level_forms (n : Nat) (d0 d1 d2 : D) : callP P0 (n + 1) 91 [d0, d1, d2] = fin (evSs (tab P0 n) L_level_forms [.val d0, .val d1, .val d2, .emp, .emp, .emp, .emp, .emp] []) := by
  rw [callP_row (g := F_level_forms) rfl rfl rfl rfl]; rfl
theorem run_range_of (n : Nat) (d0 : D) : callP P0 (n + 1) 97 [d0] = fin (evSs (tab P0 n) L_range_of [.val d0, .emp, .emp] []) := by
  rw [callP_row (g := F_range_of) rfl rfl rfl rfl]; rfl
theorem run_joined_rows (n : Nat) (d0 : D) : callP P0 (n + 1) 98 [d0] = fin (evSs (tab P0 n) L_joined_rows [.val d0, .emp, .emp, .emp, .emp, .emp] []) := by
  rw [callP_row (g := F_joined_rows) rfl rfl rfl rfl]; rfl
theorem run_in_order (n : Nat) (d0 : D) : callP P0 (n + 1) 99 [d0] = fin (evSs (tab P0 n) L_in_order [.val d0, .emp, .emp, .emp, .emp] []) := by
  rw [callP_row (g := F_in_order) rfl rfl rfl rfl]; rfl
theorem run_parts_between (n : Nat) (d0 d1 d2 : D) : callP P0 (n + 1) 100 [d0, d1, d2] = fin (evSs (tab P0 n) L_parts_between [.val d0, .val d1, .val d2, .emp, .emp, .emp, .emp] []) := by
  rw [callP_row (g := F_parts_between) rfl rfl rfl rfl]; rfl
theorem run_done_ranges (n : Nat) (d0 d1 : D) : callP P0 (n + 1) 101 [d0, d1] = fin (evSs (tab P0 n) L_done_ranges [.val d0, .val d1, .emp, .emp, .emp, .emp, .emp] []) := by
  rw [callP_row (g := F_done_ranges) rfl rfl rfl rfl]; rfl
theorem run_ranges_true (n : Nat) (d0 : D) : callP P0 (n + 1) 105 [d0] = fin (evSs (tab P0 n) L_ranges_true [.val d0, .emp, .emp] []) := by
  rw [callP_row (g := F_ranges_true) rfl rfl rfl rfl]; rfl
theorem run_cut_where (n : Nat) (d0 d1 d2 d3 : D) : callP P0 (n + 1) 106 [d0, d1, d2, d3] = fin (evSs (tab P0 n) L_cut_where [.val d0, .val d1, .val d2, .val d3, .emp] []) := by
  rw [callP_row (g := F_cut_where) rfl rfl rfl rfl]; rfl
theorem run_middle (n : Nat) (d0 : D) : callP P0 (n + 1) 107 [d0] = fin (evSs (tab P0 n) L_middle [.val d0, .emp, .emp] []) := by
  rw [callP_row (g := F_middle) rfl rfl rfl rfl]; rfl
theorem run_wet_parts (n : Nat) (d0 d1 d2 : D) : callP P0 (n + 1) 108 [d0, d1, d2] = fin (evSs (tab P0 n) L_wet_parts [.val d0, .val d1, .val d2, .emp, .emp, .emp, .emp, .emp, .emp, .emp] []) := by
  rw [callP_row (g := F_wet_parts) rfl rfl rfl rfl]; rfl
theorem run_wet_ranges (n : Nat) (d0 d1 d2 : D) : callP P0 (n + 1) 109 [d0, d1, d2] = fin (evSs (tab P0 n) L_wet_ranges [.val d0, .val d1, .val d2] []) := by
  rw [callP_row (g := F_wet_ranges) rfl rfl rfl rfl]; rfl
theorem run_are_joined (n : Nat) (d0 d1 d2 d3 : D) : callP P0 (n + 1) 110 [d0, d1, d2, d3] = fin (evSs (tab P0 n) L_are_joined [.val d0, .val d1, .val d2, .val d3, .emp] []) := by
  rw [callP_row (g := F_are_joined) rfl rfl rfl rfl]; rfl
theorem run_joined (n : Nat) (d0 d1 d2 d3 : D) : callP P0 (n + 1) 111 [d0, d1, d2, d3] = fin (evSs (tab P0 n) L_joined [.val d0, .val d1, .val d2, .val d3, .emp, .emp, .emp, .emp, .emp, .emp, .emp] []) := by
  rw [callP_row (g := F_joined) rfl rfl rfl rfl]; rfl
theorem run_lines_then (n : Nat) (d0 d1 d2 : D) : callP P0 (n + 1) 116 [d0, d1, d2] = fin (evSs (tab P0 n) L_lines_then [.val d0, .val d1, .val d2, .emp, .emp, .emp, .emp, .emp] []) := by
  rw [callP_row (g := F_lines_then) rfl rfl rfl rfl]; rfl
theorem run_parted_at (n : Nat) (d0 d1 d2 : D) : callP P0 (n + 1) 117 [d0, d1, d2] = fin (evSs (tab P0 n) L_parted_at [.val d0, .val d1, .val d2, .emp, .emp, .emp, .emp] []) := by
  rw [callP_row (g := F_parted_at) rfl rfl rfl rfl]; rfl
theorem run_need_two (n : Nat) (d0 d1 d2 : D) : callP P0 (n + 1) 118 [d0, d1, d2] = fin (evSs (tab P0 n) L_need_two [.val d0, .val d1, .val d2] []) := by
  rw [callP_row (g := F_need_two) rfl rfl rfl rfl]; rfl
theorem run_alike (n : Nat) (d0 d1 d2 : D) : callP P0 (n + 1) 119 [d0, d1, d2] = fin (evSs (tab P0 n) L_alike [.val d0, .val d1, .val d2] []) := by
  rw [callP_row (g := F_alike) rfl rfl rfl rfl]; rfl
theorem run_parting (n : Nat) (d0 d1 d2 : D) : callP P0 (n + 1) 120 [d0, d1, d2] = fin (evSs (tab P0 n) L_parting [.val d0, .val d1, .val d2] []) := by
  rw [callP_row (g := F_parting) rfl rfl rfl rfl]; rfl
theorem run_idle_steps (n : Nat) (d0 d1 : D) : callP P0 (n + 1) 125 [d0, d1] = fin (evSs (tab P0 n) L_idle_steps [.val d0, .val d1, .emp, .emp] []) := by
  rw [callP_row (g := F_idle_steps) rfl rfl rfl rfl]; rfl
theorem run_dry_in (n : Nat) (d0 d1 d2 : D) : callP P0 (n + 1) 128 [d0, d1, d2] = fin (evSs (tab P0 n) L_dry_in [.val d0, .val d1, .val d2, .emp, .emp, .emp, .emp] []) := by
  rw [callP_row (g := F_dry_in) rfl rfl rfl rfl]; rfl
theorem run_dry_until (n : Nat) (d0 d1 d2 : D) : callP P0 (n + 1) 129 [d0, d1, d2] = fin (evSs (tab P0 n) L_dry_until [.val d0, .val d1, .val d2] []) := by
  rw [callP_row (g := F_dry_until) rfl rfl rfl rfl]; rfl
theorem run_all_lots (n : Nat) (d0 : D) : callP P0 (n + 1) 132 [d0] = fin (evSs (tab P0 n) L_all_lots [.val d0, .emp, .emp, .emp, .emp] []) := by
  rw [callP_row (g := F_all_lots) rfl rfl rfl rfl]; rfl
theorem run_least_gates (n : Nat) (d0 d1 d2 : D) : callP P0 (n + 1) 133 [d0, d1, d2] = fin (evSs (tab P0 n) L_least_gates [.val d0, .val d1, .val d2, .emp, .emp, .emp, .emp, .emp] []) := by
  rw [callP_row (g := F_least_gates) rfl rfl rfl rfl]; rfl
theorem run_is_fact (n : Nat) (d0 d1 : D) : callP P0 (n + 1) 137 [d0, d1] = fin (evSs (tab P0 n) L_is_fact [.val d0, .val d1] []) := by
  rw [callP_row (g := F_is_fact) rfl rfl rfl rfl]; rfl
theorem run_need_facts (n : Nat) (d0 d1 d2 : D) : callP P0 (n + 1) 138 [d0, d1, d2] = fin (evSs (tab P0 n) L_need_facts [.val d0, .val d1, .val d2, .emp] []) := by
  rw [callP_row (g := F_need_facts) rfl rfl rfl rfl]; rfl
theorem run_cuts_of (n : Nat) (d0 d1 d2 d3 : D) : callP P0 (n + 1) 139 [d0, d1, d2, d3] = fin (evSs (tab P0 n) L_cuts_of [.val d0, .val d1, .val d2, .val d3, .emp] []) := by
  rw [callP_row (g := F_cuts_of) rfl rfl rfl rfl]; rfl
theorem run_is_true (n : Nat) (d0 d1 d2 : D) : callP P0 (n + 1) 140 [d0, d1, d2] = fin (evSs (tab P0 n) L_is_true [.val d0, .val d1, .val d2, .emp, .emp] []) := by
  rw [callP_row (g := F_is_true) rfl rfl rfl rfl]; rfl
theorem run_fact_rows (n : Nat) (d0 d1 d2 d3 : D) : callP P0 (n + 1) 141 [d0, d1, d2, d3] = fin (evSs (tab P0 n) L_fact_rows [.val d0, .val d1, .val d2, .val d3, .emp, .emp, .emp, .emp, .emp, .emp, .emp, .emp, .emp] []) := by
  rw [callP_row (g := F_fact_rows) rfl rfl rfl rfl]; rfl
theorem run_amounts (n : Nat) (d0 d1 d2 : D) : callP P0 (n + 1) 142 [d0, d1, d2] = fin (evSs (tab P0 n) L_amounts [.val d0, .val d1, .val d2, .emp, .emp, .emp] []) := by
  rw [callP_row (g := F_amounts) rfl rfl rfl rfl]; rfl
theorem run_telling (n : Nat) (d0 d1 d2 : D) : callP P0 (n + 1) 143 [d0, d1, d2] = fin (evSs (tab P0 n) L_telling [.val d0, .val d1, .val d2, .emp, .emp, .emp, .emp, .emp, .emp, .emp, .emp, .emp, .emp] []) := by
  rw [callP_row (g := F_telling) rfl rfl rfl rfl]; rfl
theorem run_need_result (n : Nat) (d0 : D) : callP P0 (n + 1) 152 [d0] = fin (evSs (tab P0 n) L_need_result [.val d0] []) := by
  rw [callP_row (g := F_need_result) rfl rfl rfl rfl]; rfl
theorem run_longer (n : Nat) (d0 d1 : D) : callP P0 (n + 1) 153 [d0, d1] = fin (evSs (tab P0 n) L_longer [.val d0, .val d1, .emp] []) := by
  rw [callP_row (g := F_longer) rfl rfl rfl rfl]; rfl
theorem run_shorter (n : Nat) (d0 d1 : D) : callP P0 (n + 1) 154 [d0, d1] = fin (evSs (tab P0 n) L_shorter [.val d0, .val d1, .emp] []) := by
  rw [callP_row (g := F_shorter) rfl rfl rfl rfl]; rfl
theorem run_is_wet_ever (n : Nat) (d0 : D) : callP P0 (n + 1) 155 [d0] = fin (evSs (tab P0 n) L_is_wet_ever [.val d0, .emp, .emp] []) := by
  rw [callP_row (g := F_is_wet_ever) rfl rfl rfl rfl]; rfl
theorem run_fallen_more (n : Nat) (d0 d1 d2 : D) : callP P0 (n + 1) 159 [d0, d1, d2] = fin (evSs (tab P0 n) L_fallen_more [.val d0, .val d1, .val d2, .emp] []) := by
  rw [callP_row (g := F_fallen_more) rfl rfl rfl rfl]; rfl
theorem run_set_at (n : Nat) (d0 d1 d2 d3 : D) : callP P0 (n + 1) 160 [d0, d1, d2, d3] = fin (evSs (tab P0 n) L_set_at [.val d0, .val d1, .val d2, .val d3] []) := by
  rw [callP_row (g := F_set_at) rfl rfl rfl rfl]; rfl
theorem run_written (n : Nat) (d0 : D) : callP P0 (n + 1) 161 [d0] = fin (evSs (tab P0 n) L_written [.val d0] []) := by
  rw [callP_row (g := F_written) rfl rfl rfl rfl]; rfl
theorem run_written_k15 (n : Nat) (d0 : D) : callP P0 (n + 1) 176 [d0] = fin (evSs (tab P0 n) L_written_k15 [.val d0, .emp, .emp, .emp, .emp, .emp] []) := by
  rw [callP_row (g := F_written_k15) rfl rfl rfl rfl]; rfl
theorem run_figures_in (n : Nat) (d0 : D) : callP P0 (n + 1) 178 [d0] = fin (evSs (tab P0 n) L_figures_in [.val d0, .emp] []) := by
  rw [callP_row (g := F_figures_in) rfl rfl rfl rfl]; rfl
theorem run_land_text_k16 (n : Nat) (d0 : D) : callP P0 (n + 1) 185 [d0] = fin (evSs (tab P0 n) L_land_text_k16 [.val d0] []) := by
  rw [callP_row (g := F_land_text_k16) rfl rfl rfl rfl]; rfl
theorem run_read_land_k16 (n : Nat) (d0 : D) : callP P0 (n + 1) 186 [d0] = fin (evSs (tab P0 n) L_read_land_k16 [.val d0, .emp, .emp, .emp, .emp, .emp] []) := by
  rw [callP_row (g := F_read_land_k16) rfl rfl rfl rfl]; rfl
theorem run__law_flooding_right (n : Nat) (d0 d1 d2 d3 : D) : callP P0 (n + 1) 187 [d0, d1, d2, d3] = fin (evSs (tab P0 n) L__law_flooding_right [.val d0, .val d1, .val d2, .val d3, .emp] []) := by
  rw [callP_row (g := F__law_flooding_right) rfl rfl rfl rfl]; rfl
theorem run__law_ranges_right_k16 (n : Nat) (d0 d1 d2 d3 d4 : D) : callP P0 (n + 1) 188 [d0, d1, d2, d3, d4] = fin (evSs (tab P0 n) L__law_ranges_right_k16 [.val d0, .val d1, .val d2, .val d3, .val d4, .emp] []) := by
  rw [callP_row (g := F__law_ranges_right_k16) rfl rfl rfl rfl]; rfl
theorem run_law_k16 (n : Nat) (d0 : D) : callP P0 (n + 1) 191 [d0] = fin (evSs (tab P0 n) L_law_k16 [.val d0, .emp, .emp, .emp, .emp, .emp, .emp] []) := by
  rw [callP_row (g := F_law_k16) rfl rfl rfl rfl]; rfl
end PD
set_option linter.all false
set_option maxRecDepth 100000
set_option maxHeartbeats 1000000
/-! A for loop in the body of a generator; a generator method called by keywords. -/
namespace PySem
section
variable {M : Model} {A : Around} {R : GenEnd} {Y : Protocol} {n : Nat} {s₀ : Shared} {c : Code} {fs : List Frame} {s : Shared} {env : Env}
  {K : Flow → Sem Fin} {H : Value → Sem Fin} {gd : Bool → Bool} {lv : List Value → List Value}
theorem seg_bw {α β : Type} {m : Sem α} {k : α → Sem β} {K : β → Sem Fin} (h : wpAny M (A.over c fs) m (fun a s' => Seg M A R Y n s₀ c ((k a).wrap K H gd lv) fs s') (fun x s' => Seg M A R Y n s₀ c (H x) fs s') s) : Seg M A R Y n s₀ c ((m >>= k).wrap K H gd lv) fs s := by
  rw [Sem.bind_eq_wrap', Sem.wrap_wrap]; exact seg_wrap h
theorem seg_For {target iter : Expr} {body orelse : List Stmt} {pos : Pos} (hs : ∀ x, foldedSetIterable iter env x = pure x)
    (h : wpAny M (A.over c fs) (eval iter env) (fun x s1 => wpAny M (A.over c fs) (pyIter x) (fun it s2 => ∀ p, Seg M A R Y n s₀ (.forLoop target it body orelse env) (M.den (.forLoop target it body orelse env))
      (.ret (fun r => ((match r with | .ok f => (.pure f : Sem Flow) | .error e => .raise e).onRaise fun (x : Value) => do
        if (← field x 1) == Value.none then unsupported "frame.own-activation:exception-without-traceback"
        setFlight x env.frame).wrap K H gd lv) none (gd false) (lv []) c p [] :: fs) s2) (fun x s' => Seg M A R Y n s₀ c (H x) fs s') s1) (fun x s' => Seg M A R Y n s₀ c (H x) fs s') s) :
    Seg M A R Y n s₀ c ((exec (.For target iter body orelse pos) env).wrap K H gd lv) fs s := by
  rw [exec_For]
  refine seg_bw (wpAny_standAt ?_)
  refine seg_bw (wpAny_mono h (fun x s1 h1 => ?_) fun _ _ e => e)
  refine seg_bw (wpAny_of_eq (hs x) ?_)
  refine seg_bw (wpAny_standAt ?_)
  refine seg_bw (wpAny_holding (wpAny_mono h1 (fun it s2 h2 => ?_) fun _ _ e => e))
  exact seg_call h2
end
section
variable {prog : Program} {w : World} {A : Around} {R : GenEnd} {Y : Protocol} {n : Nat} {s₀ : Shared} {fs : List Frame} {s : Shared} {env : Env}
/-- what an error in the loop's turn goes to -/
abbrev LoopOut (prog : Program) (w : World) (A : Around) (R : GenEnd) (Y : Protocol) (n : Nat) (s₀ : Shared) (c : Code) (env : Env) (fs : List Frame) (x : Value) (s' : Shared) : Prop :=
  Seg (model prog w) A R Y n s₀ c ((do noteFrame x env; theTreesLotGoes x : Sem Unit).wrap (fun _ => .raise x) .raise id id) fs s'
theorem seg_forLoop {target : Expr} {it : Value} {body : List Stmt}
    (h : wpAny (model prog w) (A.over (.forLoop target it body [] env) fs) (pyNext it) (fun r s1 => match r with
      | none => Seg (model prog w) A R Y n s₀ (.block [] env) (.pure (.done .next)) fs s1
      | some v => wpAny (model prog w) (A.over (.forLoop target it body [] env) fs) (letOwnedTupleGo target it v) (fun _ s1' =>
          wpAny (model prog w) (A.over (.forLoop target it body [] env) fs) (assign target env v) (fun _ s2 =>
            Seg (model prog w) A R Y n s₀ (.forLoop target it body [] env) ((execs body env).wrap (fun f => match f with
              | .next | .cont => .pure (.again (.forLoop target it body [] env))
              | .brk => .pure (.done .next)
              | .ret v => .pure (.done (.ret v))) (fun e => (do noteFrame e env; theTreesLotGoes e : Sem Unit).wrap (fun _ => .raise e) .raise id id) id id) fs s2)
            (fun x s' => LoopOut prog w A R Y n s₀ (.forLoop target it body [] env) env fs x s') s1') (fun x s' => LoopOut prog w A R Y n s₀ (.forLoop target it body [] env) env fs x s') s1)
      (fun x s' => LoopOut prog w A R Y n s₀ (.forLoop target it body [] env) env fs x s') s) :
    Seg (model prog w) A R Y n s₀ (.forLoop target it body [] env) ((model prog w).den (.forLoop target it body [] env)) fs s := by
  show Seg _ A R Y n s₀ _ ((forTurn target it body [] env).onRaise (fun x => do noteFrame x env; theTreesLotGoes x)) fs s
  unfold forTurn
  have out : ∀ (x : Value) (s' : Shared), LoopOut prog w A R Y n s₀ (.forLoop target it body [] env) env fs x s' → Seg (model prog w) A R Y n s₀ (.forLoop target it body [] env) ((do noteFrame x env; theTreesLotGoes x : Sem Unit).bind fun _ => .raise x) fs s' := fun x s' hx => by
    rw [Sem.bind_eq_wrap]; exact hx
  rw [Sem.onRaise_eq_wrap]
  refine seg_bw (wpAny_standAt ?_)
  refine seg_bw (wpAny_onRaise (wpAny_mono h (fun r s1 h1 => ?_) fun x s' hx => wpAny_standAt (out x s' hx)))
  cases r with
  | none =>
    show Seg _ A R Y n s₀ _ (.pure (.again (.block [] env))) fs s1
    refine seg_again rfl ?_
    exact h1
  | some v =>
    refine seg_bw (wpAny_mono h1 (fun _ s1' h2 => ?_) fun x s' hx => out x s' hx)
    refine seg_bw (wpAny_mono h2 (fun _ s2 h3 => ?_) fun x s' hx => out x s' hx)
    rw [Sem.bind_eq_wrap', Sem.wrap_wrap]
    rw [Sem.wrap_congr (execs body env) _ _ (K' := fun f => match f with
            | .next | .cont => .pure (.again (.forLoop target it body [] env))
            | .brk => .pure (.done .next)
            | .ret v => .pure (.done (.ret v))) (H' := (fun e => (do noteFrame e env; theTreesLotGoes e : Sem Unit).wrap (fun _ => .raise e) .raise id id))
        (fun f => by cases f <;> rfl)
        (fun e => by first | exact Sem.bind_eq_wrap _ _ | (show (do noteFrame e env; theTreesLotGoes e : Sem Unit).bind (fun _ => .raise e) = _; rw [Sem.bind_eq_wrap]))]
    exact h3
end
end PySem
namespace L2
open PySem PySem.Spec PyProof.Rows
section
variable {X : Cx}
def tGFor (wi : TI) (g : TG) (tb : TGn) : TGn := fun D ys σ H => wi σ H fun J H2 => ∃ W : Nat → Nat → List V → St → Hp → Prop, (∃ m, W 0 m ys σ H2) ∧ ∀ i m ys σ H, W i m ys σ H →
  (J.stop i H ∧ D.nx ys σ H) ∨ (J.go i H ∧ ∃ N : List V → St → Hp → Prop, (∀ ys' σ' H', N ys' σ' H' → ∃ m', m' < m ∧ W (i + 1) m' ys' σ' H') ∧ ∀ x H', J.yld i H x H' → g x σ H' fun σ2 H2 => tb { D with nx := N, ct := N, bk := D.nx } ys σ2 H2)
theorem gs_for {tg iter : Expr} {body : List Stmt} {pos : Pos} {wi : TI} {g : TG} {tb : TGn} (hp : PassesOwn (model X.prog X.w) X.A X.env X.xe) (hc : X.calm = true) (hi : PI X tg iter wi) (hg : PG X tg g) (hb : GSs X body tb)
    (hs : ∀ x, foldedSetIterable iter X.env x = pure x := by intro _; rfl) : GS X (.For tg iter body [] pos) (tGFor wi g tb) := by
  refine ⟨fun A S ip R n ys s₀ c fs K J gd lv s σ H D gc hn k hI ht => ?_⟩
  obtain ⟨acc, cc, r, I⟩ := hI
  refine seg_For hs ?_
  rw [gc.over]
  have ex0 : ∀ x s', X.xe x s' → Seg (model X.prog X.w) A R (GY X S) n s₀ c (J x) fs s' := fun x s' hx => k.exc n s₀ x s' hx
  refine wpAny_mono (hi.run ((S, lstObj acc cc) :: ip) s σ H _ I ht) (fun v s1 h1 => ?_) ex0
  refine wpAny_mono h1 (fun itv s2 h2 => ?_) ex0
  obtain ⟨it, fp, tn, JJ, H2, e, I2, T, st2, f2, W, ⟨m0, w0⟩, turn⟩ := h2
  subst e
  intro p
  have gl := fun (kk : Result → Sem PySem.Fin) => gc_loop (k := kk) (c' := .forLoop tg (.ref it) body [] X.env) (l := lv []) (kp := []) (p := p) gc rfl rfl
  have stat : ∀ {acc : Array Value} {cc : Nat} {H' : Hp}, (∀ b ∈ fp, H' b = none) → ∀ b ∈ fp, FpOk X ((S, lstObj acc cc) :: ip) H' b := fun hn b hb => ⟨hn b hb, (f2 b hb).2.1, (f2 b hb).2.2.1, (f2 b hb).2.2.2.1, (f2 b hb).2.2.2.2.1, fun q hq => by
    have k5 := (f2 b hb).2.2.2.2.2
    rcases List.mem_append.mp hq with z | z
    · exact k5 q (List.mem_append_left _ z)
    · rcases List.mem_cons.mp z with z | z
      · rw [z]; exact k5 (S, lstObj acc cc) (List.mem_append_right _ List.mem_cons_self)
      · exact k5 q (List.mem_append_right _ (List.mem_cons_of_mem _ z))⟩
  have fpS : ∀ b ∈ fp, b ≠ S := fun b hb z => (f2 b hb).2.2.2.2.2 (S, lstObj acc cc) (List.mem_append_right _ List.mem_cons_self) z.symm
  have loop : ∀ (m i n : Nat) (ys : List V) (s₀ s : Shared) (σ : St) (H : Hp), n + ys.length = sizeLine → W i m ys σ H → GI X S ip ys σ H s → tn i s.heap → (∀ b ∈ fp, H b = none) →
      Seg (model X.prog X.w) A R (GY X S) n s₀ (.forLoop tg (.ref it) body [] X.env) ((model X.prog X.w).den (.forLoop tg (.ref it) body [] X.env))
        (.ret (fun r => ((match r with | .ok f => (.pure f : Sem Flow) | .error e => .raise e).onRaise (cameBack X.env)).wrap K J gd lv) none (gd false) (lv []) c p [] :: fs) s := by
    intro m
    induction m using Nat.strongRecOn with
    | ind m ih =>
      intro i n ys s₀ s σ H hn w hI st3 fr3
      have ee : ∀ (n : Nat) (s₀ : Shared) (x : Value) (s' : Shared), X.xe x s' → Seg (model X.prog X.w) A R (GY X S) n s₀ (.forLoop tg (.ref it) body [] X.env)
          ((do noteFrame x X.env; theTreesLotGoes x : Sem Unit).wrap (fun _ => .raise x) .raise id id)
          (.ret (fun r => ((match r with | .ok f => (.pure f : Sem Flow) | .error e => .raise e).onRaise (cameBack X.env)).wrap K J gd lv) none (gd false) (lv []) c p [] :: fs) s' := fun n s₀ x s' hx => by
        refine seg_wrap ?_
        rw [(gl _).over]
        refine wpAny_bind (wpAny_mono (hp x s' hx) (fun _ s'' hcb => wpAny_theTreesLotGoes ?_) fun y s'' hcb => ?_)
        · exact seg_leaf (.error x) (seg_cameBack gc k hcb)
        · exact seg_leaf (.error y) (seg_cameBack gc k hcb)
      refine seg_forLoop ?_
      rw [(gl _).over]
      obtain ⟨acc, cc, r, I⟩ := hI
      rcases turn i m ys σ H w with ⟨stop, qn⟩ | ⟨go, N, hN, step⟩
      · refine wpAny_mono (T.done X rfl rfl rfl hc i _ s σ H X.xe I (stat fr3) st3 stop) (fun r4 s4 ⟨hr, I4⟩ => ?_) fun x s' hx => ee n s₀ x s' hx
        subst hr
        exact seg_leaf (.ok .next) (k.ok n ys s₀ s4 .next hn ⟨σ, H, ⟨acc, cc, r, I4⟩, qn⟩)
      · refine wpAny_mono (T.item X rfl rfl rfl hc i _ s σ H X.xe I (stat fr3) st3 go) (fun r4 s4 ⟨u, hr, h4⟩ => ?_) fun x s' hx => ee n s₀ x s' hx
        subst hr
        refine wpAny_mono h4 (fun _ s5 ⟨x, H5, I5, r5, y5, st5, fr5⟩ => ?_) fun x s' hx => ee n s₀ x s' hx
        have I5' := I5.pinned (stat fr5) (T.obj _ _ st5)
        refine wpAny_mono (hg.run _ s5 σ H5 x u _ I5' r5 (step x H5 y5)) (fun _ s6 ⟨σ6, H6, I6, q6⟩ => ?_) fun x s' hx => ee n s₀ x s' hx
        have gb : GC X S (ip ++ pinsAt fp s5.heap) A (.forLoop tg (.ref it) body [] X.env) (.ret (fun r => ((match r with | .ok f => (.pure f : Sem Flow) | .error e => .raise e).onRaise (cameBack X.env)).wrap K J gd lv) none (gd false) (lv []) c p [] :: fs) id := by
          refine ⟨gc.pn, fun q hq => ?_, gc.apart, (gl _).over, (gl _).split, (gl _).guard, rfl⟩
          rcases List.mem_append.mp hq with z | z
          · exact gc.ip q z
          · exact fpS q.1 (of_pinsAt z).1
        have gi : GI X S (ip ++ pinsAt fp s5.heap) ys σ6 H6 s6 := ⟨acc, cc, r, I6⟩
        refine hb.run A S (ip ++ pinsAt fp s5.heap) R n ys s₀ _ _ _ _ id id s6 σ6 H6 { D with nx := N, ct := N, bk := D.nx } gb hn ⟨fun n' ys' s₀' s7 f hn' hs7 => ?_, fun n' s₀' x s7 hx => ee n' s₀' x s7 hx⟩ gi q6
        have un : ∀ {ys7 : List V} {σ7 : St} {H7 : Hp}, GI X S (ip ++ pinsAt fp s5.heap) ys7 σ7 H7 s7 → GI X S ip ys7 σ7 H7 s7 := fun ⟨acc7, cc7, r7, I7⟩ => ⟨acc7, cc7, r7, Inv.unpinned (pins := (S, lstObj acc7 cc7) :: ip) (pl := pinsAt fp s5.heap) I7⟩
        have again : ∀ {ys7 : List V} {σ7 : St} {H7 : Hp}, GI X S (ip ++ pinsAt fp s5.heap) ys7 σ7 H7 s7 → tn (i + 1) s7.heap ∧ ∀ b ∈ fp, H7 b = none := fun {ys7 σ7 H7} ⟨acc7, cc7, r7, I7⟩ => by
          refine ⟨T.keep _ _ _ st5 fun b hb o e => (I7.pin (b, o) (List.mem_append_right _ (List.mem_cons_of_mem _ (List.mem_append_right _ (mem_pinsAt hb e))))).1, fun b hb => ?_⟩
          obtain ⟨o, e, d⟩ := T.obj _ _ st5 b hb
          exact (I7.pin (b, o) (List.mem_append_right _ (List.mem_cons_of_mem _ (List.mem_append_right _ (mem_pinsAt hb e))))).2.1
        cases f with
        | next =>
          obtain ⟨σ7, H7, I7, n7⟩ := hs7
          obtain ⟨m', hm, w7⟩ := hN ys' σ7 H7 n7
          exact seg_again rfl (ih m' hm (i + 1) n' ys' s₀' s7 σ7 H7 hn' w7 (un I7) (again I7).1 (again I7).2)
        | cont =>
          obtain ⟨σ7, H7, I7, n7⟩ := hs7
          obtain ⟨m', hm, w7⟩ := hN ys' σ7 H7 n7
          exact seg_again rfl (ih m' hm (i + 1) n' ys' s₀' s7 σ7 H7 hn' w7 (un I7) (again I7).1 (again I7).2)
        | brk =>
          obtain ⟨σ7, H7, I7, q7⟩ := hs7
          exact seg_leaf (.ok .next) (k.ok n' ys' s₀' s7 .next hn' ⟨σ7, H7, un I7, q7⟩)
        | ret v =>
          obtain ⟨x7, σ7, H7, I7, r7, q7⟩ := hs7
          exact seg_leaf (.ok (.ret v)) (k.ok n' ys' s₀' s7 (.ret v) hn' ⟨x7, σ7, H7, un I7, r7, q7⟩)
  exact loop m0 0 n ys s₀ s2 σ H2 hn w0 ⟨acc, cc, r, I2⟩ st2 fun b hb => (f2 b hb).1
end
section
variable {X : Cx} {k n : Nat} {f C : Addr} {fd : FuncData} {ps ks : List Str} {sp : SpG} {m : Str} {pos' apos : Pos} {o : Expr} {ta : TE} {kws : List Keyword} {tk : TA} {g : List Value → List Value → List Value} {gV : List V → List V → List V}
theorem run_gfnN {pins : List (Addr × Obj)} {σ : L2.St} {H : Hp} {s : Shared} {us ws : List Value} {vs zs : List V} {cont : List V → Hp → Prop} {E : XK} {E1 : Value → Shared → Prop} (F : GFn X.prog X.w X.K X.mg X.base k f fd ps sp) (hr : Room k X.A) (hb : KBn X.K fd ps n ks g gV)
    (I : Inv X pins σ H s) (r : Vals vs us) (rz : Vals zs ws) (l1 : vs.length = n) (l2 : zs.length = ks.length) (h : sp (gV vs zs) H cont E) :
    wpAny (model X.prog X.w) X.A (call (.ref f) us (ks.zip ws)) (fun u s' => ∃ H1 sc ex, Inv X pins σ H1 sc ∧ ExOk X pins ex ∧ GMade X.prog X.w k X.stack H1 sc ex cont E u s') E1 s := by
  have r2 := hb.rel r rz
  refine wpAny_call (codeAny_mono (F.run X.A X.stack s H ⟨us, ks.zip ws⟩ (g us ws) (gV vs zs) cont E hr I.env0 (hb.to s us ws I.kIn (r.length.symm.trans l1) (rz.length.symm.trans l2)) r2 h) fun r s' hq => ?_)
  cases r with
  | error e => exact False.elim hq
  | ok fl =>
    cases fl with
    | ret u => exact ⟨H, s, [], I, .nil, hq⟩
    | next => exact False.elim hq
    | brk => exact False.elim hq
    | cont => exact False.elim hq
def tMethGK (C : Addr) (m : Str) (mk : Nat) (sp : SpG) (gV : List V → List V → List V) (E : XK) (ta : TE) (tk : TA) : TGen := fun σ H cont => ta σ H fun x H1 => ∃ a dx fs, x = .ref a ∧ H1 a = some (.ins C dx fs) ∧ fs.lookup m = none ∧
  tk σ H1 fun zs H2 => zs.length = mk ∧ sp (gV [x] zs) H2 cont E
/-- o.m(k = e, ..) of a generator method -/
theorem pgen_methK0 {E : XK} {pl : Sem Bool} (he : PE X o ta) (c : Cls X.K C) (hm : Meth X.K C m f) (F : GFn X.prog X.w X.K X.mg X.base k f fd ps sp) (hr : Room k X.A) (hb : KBn X.K fd ps 1 ks g gV) (hkw : PK X kws tk)
    (hall : (backToKw pos' (keywordEach kws X.env)).all (·.1.isSome) = true := by rfl) (hks : (backToKw pos' (keywordEach kws X.env)).filterMap (·.1) = ks := by rfl)
    (hpl : ((backTo pos' (starEach [] X.env)).any (·.1) || (backToKw pos' (keywordEach kws X.env)).any (·.1.isNone)) = false := by rfl)
    (ht : eval (.Call (.Attribute o m apos) [] kws pos') X.env = (do
      let ov ← eval o X.env
      standAt apos.atName
      let (f, first) ← holding [ov] (getMethod ov m pl)
      callWith pos' f first (backTo pos' (starEach [] X.env)) (backToKw pos' (keywordEach kws X.env))) := by rfl) :
    PGen X k (.Call (.Attribute o m apos) [] kws pos') (tMethGK C m ks.length sp gV E ta tk) E := by
  refine ⟨fun pins s σ H cont I h => ?_⟩
  refine PySem.W.methodCall_KW (pl := pl) (thn (he.run pins s σ H _ I h) fun u s1 ⟨x, H1, I1, rx, a, dx, fs, ex, ea, l, q⟩ => ?_) ht
  subst ex
  obtain rfl : u = Value.ref a := rx
  refine getmeth_ok I1 ea c hm l ?_
  refine PySem.W.callWith_KW0 (h₀ := X.base) I.ok.mod.kin hm.kp hall ?_ hpl
  refine thn (hkw.run pos' pins s1 σ H1 _ I1 q) fun ws s2 ⟨zs, H2, I2, rz, l2, q2⟩ => ⟨I2.kIn, ?_⟩
  rw [hks]
  exact run_gfnN (us := [.ref a]) (vs := [.ref a]) F hr hb I2 (.cons rfl .nil) rz rfl l2 q2
end
end L2
set_option linter.all false
set_option maxRecDepth 100000
set_option maxHeartbeats 1000000
/-! Readings that tell one datum: for texts with objects. -/
namespace PD
open PySem PySem.Spec PyProof.Rows L2
/-! ### what stands -/
/-- all stands but instances and tables -/
def Kp (H H' : Hp) : Prop := ∀ a o, H a = some o → (∀ C dx fs, o ≠ .ins C dx fs) → (∀ ps, o ≠ .tbl ps) → H' a = some o
section
variable {T : List (Addr × Str)} {H H1 H' : Hp} {K : PySem.W.Frag}
theorem Kp.refl : Kp H H := fun _ _ h _ _ => h
theorem Kp.trans (a : Kp H H1) (b : Kp H1 H') : Kp H H' := fun x o h n t => b x o (a x o h n t) n t
theorem Ext.kp (x : Ext T none_ H H') : Kp H H' := fun a o h _ t => x.keep a o h (fun z => z) t
theorem Kp.thru (k : Kp H H') : Thru K H H' none_ none_ := by
  refine ⟨fun a xs q => ?_, fun a xs q => ?_⟩
  · rcases q with q | ⟨o, q⟩ | q
    · exact .inl ⟨k a _ q.1 (fun _ _ _ z => by cases z) (fun _ z => by cases z), q.2⟩
    · exact .inr (.inl ⟨o, k a _ q (fun _ _ _ z => by cases z) (fun _ z => by cases z)⟩)
    · exact .inr (.inr q)
  · rcases q with (q | ⟨o, q⟩) | q
    · exact .inl (.inl (k a _ q (fun _ _ _ z => by cases z) (fun _ z => by cases z)))
    · exact .inl (.inr ⟨o, k a _ q (fun _ _ _ z => by cases z) (fun _ z => by cases z)⟩)
    · exact .inr q
theorem dom_none : Dom none_ H := fun a h => h.elim
theorem Ext.noM {M : Addr → Prop} (x : Ext T M H H') (h : ∀ a, ¬ M a) : Ext T none_ H H' := x.mono fun a z => h a z
end
/-! ### instances by data -/
def FldR (K : PySem.W.Frag) (H : Hp) : List (Str × D) → List (Str × V) → Prop
  | [], [] => True
  | (x, d) :: r, (y, v) :: s => x = y ∧ Dv K H none_ d v ∧ FldR K H r s
  | _, _ => False
def putFd (f : Str) (d : D) : List (Str × D) → List (Str × D)
  | [] => [(f, d)]
  | (g, x) :: r => if g = f then (g, d) :: r else (g, x) :: putFd f d r
section
variable {K : PySem.W.Frag} {H H' : Hp}
theorem FldR.thru (t : Thru K H H' none_ none_) : ∀ {fs : List (Str × D)} {gs : List (Str × V)}, FldR K H fs gs → FldR K H' fs gs
  | [], [], h => h
  | (x, d) :: r, (y, v) :: s, h => ⟨h.1, Dv.thru t d h.2.1, FldR.thru t h.2.2⟩
  | [], _ :: _, h => h.elim
  | _ :: _, [], h => h.elim
theorem FldR.get : ∀ {fs : List (Str × D)} {gs : List (Str × V)} {x : Str} {d : D}, FldR K H fs gs → fs.lookup x = some d → ∃ v, gs.lookup x = some v ∧ Dv K H none_ d v
  | [], _, x, d, _, e => by cases e
  | (y, d') :: r, [], _, _, h, _ => h.elim
  | (y, d') :: r, (z, v) :: s, x, d, h, e => by
    obtain ⟨e1, h1, h2⟩ := h
    subst e1
    rw [List.lookup_cons] at e ⊢
    split at e
    · cases e; exact ⟨v, rfl, h1⟩
    · exact FldR.get h2 e
theorem FldR.none : ∀ {fs : List (Str × D)} {gs : List (Str × V)} {x : Str}, FldR K H fs gs → fs.lookup x = none → gs.lookup x = none
  | [], [], _, _, _ => rfl
  | [], _ :: _, _, h, _ => h.elim
  | _ :: _, [], _, h, _ => h.elim
  | (y, d') :: r, (z, v) :: s, x, h, e => by
    obtain ⟨e1, h1, h2⟩ := h
    subst e1
    rw [List.lookup_cons] at e ⊢
    split at e
    · cases e
    · exact FldR.none h2 e
theorem FldR.length : ∀ {fs : List (Str × D)} {gs : List (Str × V)}, FldR K H fs gs → gs.length = fs.length
  | [], [], _ => rfl
  | [], _ :: _, h => h.elim
  | _ :: _, [], h => h.elim
  | (y, d') :: r, (z, v) :: s, h => by rw [List.length_cons, List.length_cons, FldR.length h.2.2]
theorem FldR.put {f : Str} {d : D} {v : V} (hv : Dv K H none_ d v) : ∀ {fs : List (Str × D)} {gs : List (Str × V)}, FldR K H fs gs → FldR K H (putFd f d fs) (putF f v gs)
  | [], [], _ => ⟨rfl, hv, trivial⟩
  | [], _ :: _, h => h.elim
  | _ :: _, [], h => h.elim
  | (y, d') :: r, (z, w) :: s, h => by
    obtain ⟨e1, h1, h2⟩ := h
    subst e1
    unfold putFd putF
    split
    · exact ⟨rfl, hv, h2⟩
    · exact ⟨rfl, h1, FldR.put hv h2⟩
theorem putFd_len (f : Str) (d : D) : ∀ fs : List (Str × D), (putFd f d fs).length ≤ fs.length + 1
  | [] => Nat.le_refl _
  | (y, x) :: r => by
    unfold putFd
    split
    · exact Nat.le_succ _
    · rw [List.length_cons, List.length_cons]; exact Nat.succ_le_succ (putFd_len f d r)
end
/-- at a an instance of C with these fields -/
def ObA (K : PySem.W.Frag) (H : Hp) (C a : Addr) (fs : List (Str × D)) : Prop := ∃ dx gs, H a = some (.ins C dx gs) ∧ FldR K H fs gs ∧ fs.length < 900 ∧ Cls K C ∧ ∀ x d, fs.lookup x = some d → NoAttr K C x
theorem ObA.ext {T : List (Addr × Str)} {K : PySem.W.Frag} {H H' : Hp} {C a : Addr} {fs : List (Str × D)} (h : ObA K H C a fs) (x : Ext T none_ H H') : ObA K H' C a fs := by
  obtain ⟨dx, gs, h1, h2, h3⟩ := h
  exact ⟨dx, gs, x.keep a _ h1 (fun z => z) (fun _ z => by cases z), h2.thru x.kp.thru, h3⟩
/-- all stands but the instance at q and tables -/
def Ko (q : Addr) (H H' : Hp) : Prop := ∀ a o, H a = some o → a ≠ q → (∀ ps, o ≠ .tbl ps) → H' a = some o
theorem Ko.trans {q : Addr} {H H1 H' : Hp} (a : Ko q H H1) (b : Ko q H1 H') : Ko q H H' := fun x o h n t => b x o (a x o h n t) n t
theorem Ext.ko {T : List (Addr × Str)} {q : Addr} {H H' : Hp} (x : Ext T none_ H H') : Ko q H H' := fun a o h _ t => x.keep a o h (fun z => z) t
theorem Ko.kp {q C dx : Addr} {gs : List (Str × V)} {H H' : Hp} (k : Ko q H H') (h : H q = some (.ins C dx gs)) : Kp H H' := fun a o e n t => k a o e (fun w => by rw [w, h] at e; cases e; exact n _ _ _ rfl) t
/-- the classes of the slots' instances; what holds of the heap throughout -/
structure Cl where
  l : List (Nat × Addr)
  Bs : Hp → Prop
/-- a change of the instance at q keeps it -/
def Wr (cl : Cl) (q : Addr) : Prop := ∀ H H', Ko q H H' → cl.Bs H → cl.Bs H'
/-! ### slots -/
structure J (U : Wd) (O : List Nat) (cl : Cl) (e : SEnv) (σ : Slots) (H : Hp) : Prop where
  len : e.length = σ.length
  tabs : LamX.Tabs U.T H
  only : ∀ (i : Nat) (s : Sl), e[i]? = some s → s = .emp ∨ (∃ d, s = .val d) ∨ ∃ a fs, s = .ins a fs
  val : ∀ (i : Nat) (d : D), e[i]? = some (.val d) → ∃ v, σ[i]? = some (some v) ∧ Dv U.K H none_ d v
  ins : ∀ (i : Nat) (a : Addr) (fs : List (Str × D)), e[i]? = some (.ins a fs) → i ∈ O ∧ σ[i]? = some (some (.ref a)) ∧ ∃ C, cl.l.lookup i = some C ∧ ObA U.K H C a fs ∧ Wr cl a
  bs : cl.Bs H
  bE : ∀ H H', Ext U.T none_ H H' → cl.Bs H → cl.Bs H'
  fr : ∀ q H, H q = none → cl.Bs H → Wr cl q
def okS : Sl → Bool
  | .emp => true
  | .val _ => true
  | .ins _ _ => true
  | _ => false
def noIn : Sl → Bool
  | .emp => true
  | .val _ => true
  | _ => false
theorem okS_only {s : Sl} (h : okS s = true) : s = .emp ∨ (∃ d, s = .val d) ∨ ∃ a fs, s = .ins a fs := by
  cases s with
  | emp => exact .inl rfl
  | val d => exact .inr (.inl ⟨d, rfl⟩)
  | ins a fs => exact .inr (.inr ⟨a, fs, rfl⟩)
  | _ => cases h
section
variable {U : Wd} {n : Nat} {O : List Nat} {cl : Cl} {e e' : SEnv} {σ σ' : Slots} {H H' : Hp}
theorem J.noOwn (j : J U O cl e σ H) (i : Nat) : ¬ Own e i := fun h => by
  rcases h with h | ⟨ds, h⟩ <;> rcases j.only i _ h with z | ⟨_, z⟩ | ⟨_, _, z⟩ <;> cases z
theorem J.si (j : J U O cl e σ H) : SI (U.fx n H none none_ O) σ H e [] := by
  have av : ∀ a, Av (U.fx n H none none_ O) σ e a → none_ a := fun a h => h.elim id fun ⟨i, h, _⟩ => absurd h (j.noOwn i)
  refine ⟨j.len, .refl, j.tabs, dom_none, fun i d h => ?_, fun i ds h => absurd (.inr ⟨ds, h⟩) (j.noOwn i), fun i h => absurd (.inl h) (j.noOwn i), fun i k a h => absurd h (j.noOwn i), fun i k h => absurd (.inl h) (j.noOwn i), fun b h => ?_, fun p hp => ?_, fun i kvs h => ?_, fun i a fs h => ?_⟩
  · obtain ⟨v, h1, h2⟩ := j.val i d h
    exact ⟨v, h1, h2.less av⟩
  · cases h
  · cases hp
  · rcases j.only i _ h with z | ⟨_, z⟩ | ⟨_, _, z⟩ <;> cases z
  · obtain ⟨h0, h1, C, _, ⟨dx, gs, h2, h3, h4, h5, h6⟩, _⟩ := j.ins i a fs h
    refine ⟨h0, h1, C, dx, gs, h2, h5, fun x d q => ⟨h6 x d q, ?_⟩⟩
    obtain ⟨v, l, hv⟩ := h3.get q
    exact ⟨v, l, hv.less av⟩
theorem SI.extN {B : Bg} (s : SI (U.fx n H none none_ O) σ' H' e' B) : Ext U.T none_ H H' := s.ext.noM fun a z => by cases z
/-- behind plain work -/
theorem SI.j {B : Bg} (j : J U O cl e σ H) (s : SI (U.fx n H none none_ O) σ' H' e' B) (ok : e'.all okS = true) (old : ∀ (i : Nat) (a : Addr) (fs : List (Str × D)), e'[i]? = some (.ins a fs) → e[i]? = some (.ins a fs)) : J U O cl e' σ' H' := by
  refine ⟨s.len, s.tabs, fun i z h => okS_only (List.all_eq_true.mp ok z (List.mem_of_getElem? h)), fun i d h => ?_, fun i a fs h => ?_, j.bE _ _ s.extN j.bs, j.bE, j.fr⟩
  · obtain ⟨v, h1, h2⟩ := s.val i d h
    exact ⟨v, h1, h2.less fun a z => z.elim⟩
  · obtain ⟨h0, h1, _⟩ := s.ins i a fs h
    obtain ⟨_, _, C, h2, h3, h4⟩ := j.ins i a fs (old i a fs h)
    exact ⟨h0, h1, C, h2, h3.ext s.extN, h4⟩
theorem J.ext (j : J U O cl e σ H) (x : Ext U.T none_ H H') : J U O cl e σ H' :=
  ⟨j.len, x.tabs j.tabs, j.only, fun i d h => let ⟨v, h1, h2⟩ := j.val i d h; ⟨v, h1, Dv.thru x.kp.thru d h2⟩, fun i a fs h => let ⟨h0, h1, C, h2, h3, h4⟩ := j.ins i a fs h; ⟨h0, h1, C, h2, h3.ext x, h4⟩, j.bE _ _ x j.bs, j.bE, j.fr⟩
theorem J.okAll (j : J U O cl e σ H) : e.all okS = true := List.all_eq_true.mpr fun z hz => by
  obtain ⟨i, hi, q⟩ := List.mem_iff_getElem.mp hz
  rcases j.only i z (by rw [List.getElem?_eq_getElem hi, q]) with h | ⟨_, h⟩ | ⟨_, _, h⟩ <;> rw [h] <;> rfl
end
/-! ### readings -/
def Dat (U : Wd) (d : D) : V → Hp → Prop := fun v H => Dv U.K H none_ d v
/-- an instance of C with these fields -/
def Lnd (U : Wd) (C : Addr) (fs : List (Str × D)) : V → Hp → Prop := fun v H => ∃ a, v = .ref a ∧ ObA U.K H C a fs
/-- .., and it may be changed -/
def LndW (U : Wd) (cl : Cl) (C : Addr) (fs : List (Str × D)) : V → Hp → Prop := fun v H => ∃ a, v = .ref a ∧ ObA U.K H C a fs ∧ Wr cl a
def tK (U : Wd) (O : List Nat) (cl : Cl) (pr : Bool) (e e' : SEnv) (P : V → Hp → Prop) : TE := fun σ H Q => J U O cl e σ H ∧ ∀ v H', J U O cl e' σ H' → Kp H H' → (pr = true → Ext U.T none_ H H') → P v H' → Q v H'
def tKT (U : Wd) (O : List Nat) (cl : Cl) (pr : Bool) (e e' : SEnv) (b : Bool) : TT := fun σ H Q => J U O cl e σ H ∧ ∀ H', J U O cl e' σ H' → Kp H H' → (pr = true → Ext U.T none_ H H') → Q b H'
def tKA (U : Wd) (O : List Nat) (cl : Cl) (pr : Bool) (e e' : SEnv) (ds : List D) : TA := fun σ H Q => J U O cl e σ H ∧ ∀ vs H', J U O cl e' σ H' → Kp H H' → (pr = true → Ext U.T none_ H H') → DvAll U.K H' none_ ds vs → Q vs H'
def tKS (U : Wd) (O : List Nat) (cl : Cl) (pr : Bool) (e e' : SEnv) : TS := fun D σ H => J U O cl e σ H ∧ ∀ σ' H', J U O cl e' σ' H' → Kp H H' → (pr = true → Ext U.T none_ H H') → D.nx σ' H'
/-- a block that gives a value back -/
def tKB (U : Wd) (O : List Nat) (cl : Cl) (pr : Bool) (e e' : SEnv) (P : V → Hp → Prop) : TS := fun D σ H => J U O cl e σ H ∧ ∀ σ' v H', J U O cl e' σ' H' → Kp H H' → (pr = true → Ext U.T none_ H H') → P v H' → D.rt v H'
/-- what is known of the context -/
structure KX (X : Cx) (U : Wd) (n : Nat) (C : Ct) : Prop where
  gd : ∀ H0, ∃ W, GdS X (U.fx n H0 none none_ C.O) W C
  eP : X.prog = U.P
  ew : X.w = U.w
  em : X.mg = U.mg
  eb : X.base = U.base
theorem KX.K {X : Cx} {U : Wd} {n : Nat} {C : Ct} (k : KX X U n C) : X.K = U.K := by
  obtain ⟨W, G⟩ := k.gd (fun _ => none)
  exact G.K
theorem KX.un {X : Cx} {U : Wd} {n : Nat} {C : Ct} (k : KX X U n C) : X.A.units + 65 < cLine := by
  obtain ⟨W, G⟩ := k.gd (fun _ => none)
  exact G.un
theorem KX.calm {X : Cx} {U : Wd} {n : Nat} {C : Ct} (k : KX X U n C) : X.calm = true := by
  obtain ⟨W, G⟩ := k.gd (fun _ => none)
  exact G.calm
theorem KX.nd {X : Cx} {U : Wd} {n : Nat} {C : Ct} (k : KX X U n C) : X.N.Nodup := by
  obtain ⟨W, G⟩ := k.gd (fun _ => none)
  exact G.nd
abbrev E0 : XK := fun _ _ _ => False
theorem pas {X : Cx} : Passes (L2N.CX X.prog X.w) X E0 := L2N.passes_call takesN fun _ _ _ _ z => z.elim
theorem andE {a b : Bool} {p : Prop} {q : Prop} {r : Prop} (f : p → q → r) (h1 : a = true → p) (h2 : b = true → q) : (a && b) = true → r := fun z => by
  obtain ⟨z1, z2⟩ := Bool.and_eq_true_iff.mp z
  exact f (h1 z1) (h2 z2)
section
variable {X : Cx} {U : Wd} {n : Nat} {C : Ct} {cl : Cl} {e e1 e2 e3 : SEnv} {pos p : Pos} {a b : Expr} {p1 p2 : Bool} {x y d : D}
theorem Dat.kp {v : V} {H H' : Hp} (h : Dat U d v H) (k : Kp H H') : Dat U d v H' := Dv.thru k.thru d h
/-- a plain expression -/
theorem k_plain (kx : KX X U n C) {m : ME} {c : Bool} (hc : cE 40 C a = some (m, c)) (hev : ev (tab U.Pg n) m e [] = .ok (d, [])) : PE X a (tK U C.O cl true e e (Dat U d)) := by
  refine ⟨fun pins s σ H Q I ⟨j, k⟩ => ?_⟩
  obtain ⟨W, G⟩ := kx.gd H
  refine (cE_ok 40 X _ W C a m c G.toGd hc).1.run pins s σ H Q I ⟨e, [], j.si, ?_⟩
  show After _ W σ H e (ev (tab U.Pg n) m e []) _
  rw [hev]
  intro H' g v hv
  have si := j.si.step g
  have j' : J U C.O cl e σ H' := SI.j j si j.okAll fun i a fs h => h
  exact k v H' j' si.extN.kp (fun _ => si.extN) (hv.dv.less fun a z => z.elim)
/-- a plain test -/
theorem kT_plain (kx : KX X U n C) {m : ME} {c : Bool} (hc : cE 40 C a = some (m, true)) (hev : ev (tab U.Pg n) m e [] = .ok (.bool c, [])) : PT X a (tKT U C.O cl true e e c) := by
  refine ⟨fun pins s σ H Q I ⟨j, k⟩ => ?_⟩
  obtain ⟨W, G⟩ := kx.gd H
  refine ((cE_ok 40 X _ W C a m true G.toGd hc).2 rfl).run pins s σ H Q I ⟨e, [], j.si, ?_⟩
  show After _ W σ H e (ev (tab U.Pg n) m e []) _
  rw [hev]
  intro H' g
  have si := j.si.step g
  have j' : J U C.O cl e σ H' := SI.j j si j.okAll fun i a fs h => h
  exact ⟨c, rfl, k H' j' si.extN.kp (fun _ => si.extN)⟩
/-- plain arguments -/
theorem kA_plain (kx : KX X U n C) {es : List Expr} {ms : MEs} {ds : List D} (hc : cEs (cE 40) C es = some ms) (hev : evs (tab U.Pg n) ms e [] = .ok (ds, [])) : PA X es (tKA U C.O cl true e e ds) := by
  refine ⟨fun p pins s σ H Q I ⟨j, k⟩ => ?_⟩
  obtain ⟨W, G⟩ := kx.gd H
  refine (cEs_ok (cE_ok 40) G.toGd hc).1.run p pins s σ H Q I ⟨e, [], j.si, ?_⟩
  show After _ W σ H e (evs (tab U.Pg n) ms e []) _
  rw [hev]
  intro H' g vs hv
  have si := j.si.step g
  have j' : J U C.O cl e σ H' := SI.j j si j.okAll fun i a fs h => h
  exact k vs H' j' si.extN.kp (fun _ => si.extN) (hv.less fun a z => z.elim)
/-- a plain statement -/
theorem kS_plain (kx : KX X U n C) {st : Stmt} {m : MS} (hc : stepS (cE 40) (cSs 40) C st = some m) (hev : evS (tab U.Pg n) m e [] = .ok (.nx e1, [])) (ok : e1.all okS = true) (old : ∀ (i : Nat) (a : Addr) (fs : List (Str × D)), e1[i]? = some (.ins a fs) → e[i]? = some (.ins a fs)) : PS X st (tKS U C.O cl true e e1) := by
  refine ⟨fun pins s σ H D I ⟨j, k⟩ => ?_⟩
  obtain ⟨W, G⟩ := kx.gd H
  refine (stepS_ok (cE_ok 40) (cSs_ok 40) G hc).run pins s σ H D I ⟨e, [], j.si, ?_⟩
  show Wish _ W C.new (evS (tab U.Pg n) m e []) D
  rw [hev]
  intro σ' H' si
  exact k σ' H' (SI.j j si ok old) si.extN.kp (fun _ => si.extN)
end
end PD
set_option linter.all false
set_option maxRecDepth 100000
set_option maxHeartbeats 1000000
/-! Readings that tell one datum: operators, tests, statements, instances. -/
namespace PD
open PySem PySem.Spec PyProof.Rows L2
section
variable {X : Cx} {U : Wd} {n : Nat} {C : Ct} {cl : Cl} {e e1 e2 e3 : SEnv} {pos p : Pos} {a b : Expr} {p1 p2 : Bool} {x y d : D} {Ca : Addr} {fs : List (Str × D)}
/-! ### operators on data -/
theorem r_cmpK (kx : KX X U n C) {o : CmpO} {c : Bool} (hc : cmpD o x y = some c) {σ : Slots} {H : Hp} {Q : VK} (h : tK U C.O cl (p1 && p2) e e2 (Dat U (.bool c)) σ H Q) : tOp (rB2 X.K (cmpD o)) (tK U C.O cl p1 e e1 (Dat U x)) (tK U C.O cl p2 e1 e2 (Dat U y)) σ H Q := by
  obtain ⟨j, k⟩ := h
  refine ⟨j, fun v H1 j1 k1 x1 hv => ⟨j1, fun w H2 j2 k2 x2 hw => ⟨none_, x, y, c, ?_, ?_, hc, k _ H2 j2 (k1.trans k2) (andE Ext.trans x1 x2) (.ofB c)⟩⟩⟩
  · rw [kx.K]; exact (hv.kp k2 : Dv U.K H2 none_ x v).di
  · rw [kx.K]; exact (hw : Dv U.K H2 none_ y w).di
theorem k_cmp (kx : KX X U n C) {o : CmpO} {c : Bool} (ha : PE X a (tK U C.O cl p1 e e1 (Dat U x))) (hb : PE X b (tK U C.O cl p2 e1 e2 (Dat U y))) (hc : cmpD o x y = some c) (hm : behindInMarks (cop o) b = false) : PE X (.Compare a [cop o] [b] pos) (tK U C.O cl (p1 && p2) e e2 (Dat U (.bool c))) :=
  (pe_cmpR (op_cmpD kx.un o) ha hb hm).imp fun σ H Q h => r_cmpK kx hc h
theorem kT_cmp (kx : KX X U n C) {o : CmpO} {c : Bool} (ha : PE X a (tK U C.O cl p1 e e1 (Dat U x))) (hb : PE X b (tK U C.O cl p2 e1 e2 (Dat U y))) (hc : cmpD o x y = some c) (hm : behindInMarks (cop o) b = false) : PT X (.Compare a [cop o] [b] pos) (tKT U C.O cl (p1 && p2) e e2 c) :=
  (pt_cmpR (op_cmpD kx.un o) ha hb hm).imp fun σ H Q ⟨j, k⟩ => r_cmpK (e1 := e1) kx hc ⟨j, fun v H' j' k' x' hv => ⟨c, Dv.b hv, k H' j' k' x'⟩⟩
theorem k_ix (kx : KX X U n C) {z : D} (ha : PE X a (tK U C.O cl p1 e e1 (Dat U x))) (hb : PE X b (tK U C.O cl p2 e1 e2 (Dat U y))) (hc : itemD x y = some z) (hs : isSlice b = false) : PE X (.Subscript a b pos) (tK U C.O cl (p1 && p2) e e2 (Dat U z)) := by
  refine (pe_ix ix_D ha hb (plainIx hs)).imp fun σ H Q ⟨j, k⟩ => ?_
  refine ⟨j, fun v H1 j1 k1 x1 hv => ⟨j1, fun w H2 j2 k2 x2 hw => ⟨none_, x, y, z, dom_none, ?_, ?_, hc, fun u H' s hu => ?_⟩⟩⟩
  · rw [kx.K]; exact (hv.kp k2 : Dv U.K H2 none_ x v).di
  · rw [kx.K]; exact (hw : Dv U.K H2 none_ y w).di
  · rw [kx.K] at hu
    have x0 : Ext U.T none_ H2 H' := .same s
    exact k u H' (j2.ext x0) ((k1.trans k2).trans x0.kp) (fun z => (andE Ext.trans x1 x2 z).trans x0) hu
/-! ### tests -/
theorem kT_val {c : Bool} (ha : PE X a (tK U C.O cl p1 e e1 (Dat U (.bool c)))) (hv : valTest a = true) : PT X a (tKT U C.O cl p1 e e1 c) :=
  (pt_val ha (isTrue_val hv)).imp fun σ H Q ⟨j, k⟩ => ⟨j, fun v H' j' k' x' hv => ⟨c, Dv.b hv, k H' j' k' x'⟩⟩
theorem kT_not {c : Bool} (ha : PT X a (tKT U C.O cl p1 e e1 c)) : PT X (.UnaryOp .Not a pos) (tKT U C.O cl p1 e e1 (!c)) := (pt_not ha).imp fun σ H Q ⟨j, k⟩ => ⟨j, k⟩
theorem kW_or1 {c : Bool} (ha : PT X a (tKT U C.O cl p1 e e1 c)) : PW X (.BoolOp .Or [a] pos) (tKT U C.O cl p1 e e1 c) := pw_or1 ha
theorem kW_orF {r : List Expr} {c : Bool} (ha : PT X a (tKT U C.O cl p1 e e1 false)) (hb : PW X (.BoolOp .Or (b :: r) pos) (tKT U C.O cl p2 e1 e2 c)) : PW X (.BoolOp .Or (a :: b :: r) pos) (tKT U C.O cl (p1 && p2) e e2 c) :=
  (pw_or ha hb).imp fun σ H Q ⟨j, k⟩ => ⟨j, fun H1 j1 k1 x1 => ite_ff ⟨j1, fun H2 j2 k2 x2 => k H2 j2 (k1.trans k2) (andE Ext.trans x1 x2)⟩⟩
/-! ### and, not as values -/
theorem k_not {c : Bool} (ha : PE X a (tK U C.O cl p1 e e1 (Dat U (.bool c)))) : PE X (.UnaryOp .Not a pos) (tK U C.O cl p1 e e1 (Dat U (.bool (!c)))) :=
  (pe_not ha).imp fun σ H Q ⟨j, k⟩ => ⟨j, fun v H' j' k' x' hv => ⟨c, Dv.b hv, k _ H' j' k' x' (.ofB _)⟩⟩
theorem k_one {op : BoolOp} {P : V → Hp → Prop} (ha : PE X a (tK U C.O cl p1 e e1 P)) : PE X (.BoolOp op [a] pos) (tK U C.O cl p1 e e1 P) := pe_one ha
theorem k_andT {r : List Expr} {P : V → Hp → Prop} (ha : PE X a (tK U C.O cl p1 e e1 (Dat U (.bool true)))) (hb : PE X (.BoolOp .And (b :: r) pos) (tK U C.O cl p2 e1 e2 P)) : PE X (.BoolOp .And (a :: b :: r) pos) (tK U C.O cl (p1 && p2) e e2 P) :=
  (pe_and ha hb).imp fun σ H Q ⟨j, k⟩ => ⟨j, fun v H1 j1 k1 x1 hv => ⟨true, Dv.b hv, ite_tt ⟨j1, fun w H2 j2 k2 x2 hw => k w H2 j2 (k1.trans k2) (andE Ext.trans x1 x2) hw⟩⟩⟩
/-! ### statements -/
theorem kS_expr {P : V → Hp → Prop} (ha : PE X a (tK U C.O cl p1 e e1 P)) (hs : swapsWith a none pos.line X.env = pure false := by rfl) : PS X (.Expr a pos) (tKS U C.O cl p1 e e1) :=
  (ps_expr ha hs).imp fun D σ H ⟨j, k⟩ => ⟨j, fun v H' j' k' x' _ => k σ H' j' k' x'⟩
/-- a test that is not met: nothing -/
theorem kS_ifF {st : List Stmt} {t : TS} (ha : PT X a (tKT U C.O cl p1 e e1 false)) (hb : PSs X st t) : PS X (.If a st [] pos) (tKS U C.O cl p1 e e1) :=
  (ps_if ha hb pss_nil).imp fun D σ H ⟨j, k⟩ => ⟨j, fun H' j' k' x' => ite_ff (k σ H' j' k' x')⟩
theorem kB_ret {P : V → Hp → Prop} (ha : PE X a (tK U C.O cl p1 e e1 P)) : PSs X [.Return (some a) pos] (tKB U C.O cl p1 e e1 P) :=
  (pss_one (ps_ret ha)).imp fun D σ H ⟨j, k⟩ => ⟨j, fun v H' j' k' x' hv => k σ v H' j' k' x' hv⟩
theorem kB_cons {st : Stmt} {rest : List Stmt} {P : V → Hp → Prop} (h1 : PS X st (tKS U C.O cl p1 e e1)) (h2 : PSs X rest (tKB U C.O cl p2 e1 e2 P)) : PSs X (st :: rest) (tKB U C.O cl (p1 && p2) e e2 P) :=
  (pss_cons h1 h2).imp fun D σ H ⟨j, k⟩ => ⟨j, fun σ1 H1 j1 k1 x1 => ⟨j1, fun σ2 v H2 j2 k2 x2 hv => k σ2 v H2 j2 (k1.trans k2) (andE Ext.trans x1 x2) hv⟩⟩
theorem kS_one {st : Stmt} (h1 : PS X st (tKS U C.O cl p1 e e1)) : PSs X [st] (tKS U C.O cl p1 e e1) := pss_one h1
theorem kS_cons {st : Stmt} {rest : List Stmt} (h1 : PS X st (tKS U C.O cl p1 e e1)) (h2 : PSs X rest (tKS U C.O cl p2 e1 e2)) : PSs X (st :: rest) (tKS U C.O cl (p1 && p2) e e2) :=
  (pss_cons h1 h2).imp fun D σ H ⟨j, k⟩ => ⟨j, fun σ1 H1 j1 k1 x1 => ⟨j1, fun σ2 H2 j2 k2 x2 => k σ2 H2 j2 (k1.trans k2) (andE Ext.trans x1 x2)⟩⟩
/-! ### instances -/
theorem k_weak (ha : PE X a (tK U C.O cl p1 e e1 (LndW U cl Ca fs))) : PE X a (tK U C.O cl p1 e e1 (Lnd U Ca fs)) := ha.imp fun σ H Q ⟨j, k⟩ => ⟨j, fun v H' j' k' x' ⟨q, h1, h2, _⟩ => k v H' j' k' x' ⟨q, h1, h2⟩⟩
/-- a name whose slot holds an instance -/
theorem k_var (kx : KX X U n C) {i : Nat} {z : Str} {q : Addr} (hi : slotOf C.N z = some i) (hz : okName z = true) (hv : visB C.sc z = true) (he : e[i]? = some (.ins q fs)) (hc : cl.l.lookup i = some Ca) : PE X (.Name z p) (tK U C.O cl true e e (Lnd U Ca fs)) := by
  obtain ⟨W, G⟩ := kx.gd (fun _ => none)
  obtain ⟨z1, z2, z3⟩ := okName_1 hz
  refine (pe_var (G.slot hi) (G.vis hv) z1 z2).imp fun σ H Q ⟨j, k⟩ => ?_
  obtain ⟨h0, h1, C', h2, h3, _⟩ := j.ins i q fs he
  rw [hc] at h2
  cases h2
  exact ⟨_, h1, k _ H j .refl (fun _ => .refl) ⟨q, rfl, h3⟩⟩
/-- read only, a datum comes back -/
def spO (U : Wd) (Ca : Addr) (np : Nat) (run : Addr → List (Str × D) → List D → D → Prop) : Sp := fun vs H Q _ => vs.length = np ∧ ∃ q us ds fs d, vs = .ref q :: us ∧ LamX.Tabs U.T H ∧ ObA U.K H Ca q fs ∧ DvAll U.K H none_ ds us ∧ run q fs ds d ∧ ∀ v H', Ext U.T none_ H H' → Dv U.K H' none_ d v → Q v H'
/-- read only, a new instance of Cb comes back -/
def spN (U : Wd) (Ca Cb : Addr) (np : Nat) (run : Addr → List (Str × D) → List D → List (Str × D) → Prop) : Sp := fun vs H Q _ => vs.length = np ∧ ∃ q us ds fs fs', vs = .ref q :: us ∧ LamX.Tabs U.T H ∧ ObA U.K H Ca q fs ∧ DvAll U.K H none_ ds us ∧ run q fs ds fs' ∧ ∀ r H', Ext U.T none_ H H' → ObA U.K H' Cb r fs' → Q (.ref r) H'
/-- the instance changes, a datum comes back -/
def spW (U : Wd) (Ca : Addr) (np : Nat) (run : Addr → List (Str × D) → List D → List (Str × D) → D → Prop) : Sp := fun vs H Q _ => vs.length = np ∧ ∃ q us ds fs fs' d, vs = .ref q :: us ∧ LamX.Tabs U.T H ∧ ObA U.K H Ca q fs ∧ DvAll U.K H none_ ds us ∧ run q fs ds fs' d ∧ ∀ v H', Ko q H H' → LamX.Tabs U.T H' → ObA U.K H' Ca q fs' → Dv U.K H' none_ d v → Q v H'
section
variable {Cb g : Addr} {fd : FuncData} {ps : List Str} {k np : Nat} {run : Addr → List (Str × D) → List D → D → Prop} {fs' : List (Str × D)}
abbrev FO (X : Cx) (k : Nat) (g : Addr) (fd : FuncData) (ps : List Str) (sp : Sp) : Prop := FnOk X.prog X.w X.K X.mg X.base (L2N.CX X.prog X.w) k g fd ps sp
theorem ObA.at {H : Hp} {q : Addr} (h : ObA U.K H Ca q fs) : ∃ dx gs, H q = some (.ins Ca dx gs) := by
  obtain ⟨dx, gs, h, _⟩ := h
  exact ⟨dx, gs, h⟩
theorem dv1 {H : Hp} {v : V} (h : Dat U d v H) : DvAll U.K H none_ [d] [v] := .cons h .nil
/-- o.f, a property -/
theorem k_prop (kx : KX X U n C) {q : Addr} {f : Str} (F : FO X k g fd ps (spO U Ca 1 run)) (hr : Room (k + 1) X.A) (hb : Binds X.K fd ps []) (c : Cls X.K Ca) (hp : PropOf X.K Ca f q g) (ha : PE X a (tK U C.O cl p1 e e1 (Lnd U Ca fs))) (hd : ∀ q, run q fs [] d) (hab : attributeBase a f X.env (eval a X.env) = eval a X.env) :
    PE X (.Attribute a f pos) (tK U C.O cl p1 e e1 (Dat U d)) := by
  refine (pe_prop ha c hp F hr hb .nil (E := E0) (pas (X := X.nox)) hab).imp fun σ H Q ⟨j, kk⟩ => ?_
  refine ⟨j, fun v H1 j1 k1 x1 ⟨q, e, ob⟩ => ?_⟩
  obtain ⟨dx, gs, hq⟩ := ob.at
  exact ⟨q, dx, gs, e, hq, rfl, q, [], [], fs, d, rfl, j1.tabs, ob, .nil, hd q, fun w H' x' hw => kk w H' (j1.ext x') (k1.trans x'.kp) (fun z => (x1 z).trans x') hw⟩
/-- o[b] -/
theorem k_itemO (kx : KX X U n C) (m : Own.M X.K Ca "__getitem__" g) (F : FO X k g fd ps (spO U Ca 2 run)) (hr : Room (k + 1) X.A) (hb : Binds X.K fd ps []) (ha : PE X a (tK U C.O cl p1 e e1 (Lnd U Ca fs))) (hi : PE X b (tK U C.O cl true e1 e1 (Dat U y))) (hd : ∀ q, run q fs [y] d)
    (hs : ∀ x i, subscripted b true (.ref x) i = runValue (.builtin "lifetime.subscript" ⟨[.ref x, i], []⟩)) : PE X (.Subscript a b pos) (tK U C.O cl p1 e e1 (Dat U d)) := by
  refine (Own.pe_ixO m F hr hb (E := E0) pas ha hi hs).imp fun σ H Q ⟨j, kk⟩ => ?_
  refine ⟨j, fun v H1 j1 k1 x1 ⟨q, e, ob⟩ => ⟨j1, fun w H2 j2 k2 x2 hw => ?_⟩⟩
  have ob2 := ob.ext (x2 rfl)
  obtain ⟨dx, gs, hq⟩ := ob2.at
  exact ⟨q, dx, gs, e, hq, rfl, q, [w], [y], fs, d, by rw [e], j2.tabs, ob2, dv1 hw, hd q, fun w H' x' hw => kk w H' (j2.ext x') ((k1.trans k2).trans x'.kp) (fun z => ((x1 z).trans (x2 rfl)).trans x') hw⟩
/-- len(o) -/
theorem k_lenO (kx : KX X U n C) {z : Str} {i : Int} (m : Own.M X.K Ca "__len__" g) (F : FO X k g fd ps (spO U Ca 1 run)) (hr : Room (k + 1) X.A) (hb : Binds X.K fd ps []) (ha : PE X a (tK U C.O cl p1 e e1 (Lnd U Ca fs))) (hd : ∀ q, run q fs [] (.int i)) (h0 : 0 ≤ i ∧ i < 2 ^ 63)
    (hg : Gl X z) (hm : X.mg z = none) (hv : bootBuiltins z = some (.builtin "len")) (hp : plainE a = true) (hn : z ≠ "__name__" := by decide) (hdb : (z == ("__debug__" : Str)) = false := by decide) : PE X (.Call (.Name z p) [a] [] pos) (tK U C.O cl p1 e e1 (Dat U (.int i))) := by
  refine (pe_callB (Own.call_lenO m F hr hb (E := E0) pas) hg hm hv (pa_cons ha pa_nil (star_plain hp)) hn hdb (star_plain hp)).imp fun σ H Q ⟨j, kk⟩ => ?_
  refine ⟨j, fun v H1 j1 k1 x1 ⟨q, e, ob⟩ => ?_⟩
  obtain ⟨dx, gs, hq⟩ := ob.at
  exact ⟨q, dx, gs, by rw [e], hq, rfl, q, [], [], fs, .int i, rfl, j1.tabs, ob, .nil, hd q, fun w H' x' hw => ⟨i, Dv.i hw, h0.1, h0.2, kk _ H' (j1.ext x') (k1.trans x'.kp) (fun z => (x1 z).trans x') (.ofI i)⟩⟩
/-- bool(o) -/
theorem k_boolO (kx : KX X U n C) {z : Str} {c : Bool} (m : Own.M X.K Ca "__bool__" g) (F : FO X k g fd ps (spO U Ca 1 run)) (hr : Room (k + 2) X.A) (hb : Binds X.K fd ps []) (ha : PE X a (tK U C.O cl p1 e e1 (Lnd U Ca fs))) (hd : ∀ q, run q fs [] (.bool c))
    (hg : Gl X z) (hm : X.mg z = none) (hv : bootBuiltins z = some (.type "bool")) (hp : plainE a = true) (hn : z ≠ "__name__" := by decide) (hdb : (z == ("__debug__" : Str)) = false := by decide) : PE X (.Call (.Name z p) [a] [] pos) (tK U C.O cl p1 e e1 (Dat U (.bool c))) := by
  refine (pe_callTy (Own.call_boolO m F hr hb (E := E0) pas) hg hm hv (pa_cons ha pa_nil (star_plain hp)) hn hdb (star_plain hp)).imp fun σ H Q ⟨j, kk⟩ => ?_
  refine ⟨j, fun v H1 j1 k1 x1 ⟨q, e, ob⟩ => ?_⟩
  obtain ⟨dx, gs, hq⟩ := ob.at
  exact ⟨q, dx, gs, by rw [e], hq, rfl, q, [], [], fs, .bool c, rfl, j1.tabs, ob, .nil, hd q, fun w H' x' hw => ⟨c, Dv.b hw, kk _ H' (j1.ext x') (k1.trans x'.kp) (fun z => (x1 z).trans x') (.ofB c)⟩⟩
/-- b in o -/
theorem k_inO (kx : KX X U n C) {c : Bool} (m : Own.M X.K Ca "__contains__" g) (F : FO X k g fd ps (spO U Ca 2 run)) (hr : Room k X.A) (hb : Binds X.K fd ps []) (hi : PE X b (tK U C.O cl p1 e e1 (Dat U y))) (ha : PE X a (tK U C.O cl p2 e1 e2 (Lnd U Ca fs))) (hd : ∀ q, run q fs [y] (.bool c)) (hm : behindInMarks .In a = false) :
    PE X (.Compare b [.In] [a] pos) (tK U C.O cl (p1 && p2) e e2 (Dat U (.bool c))) := by
  refine (pe_cmpR (Own.op_inO m F hr hb (E := E0) pas) hi ha hm).imp fun σ H Q ⟨j, kk⟩ => ?_
  refine ⟨j, fun w H1 j1 k1 x1 hw => ⟨j1, fun v H2 j2 k2 x2 ⟨q, e, ob⟩ => ?_⟩⟩
  obtain ⟨dx, gs, hq⟩ := ob.at
  exact ⟨q, dx, gs, e, hq, rfl, q, [w], [y], fs, .bool c, by rw [e], j2.tabs, ob, dv1 (hw.kp k2), hd q, fun u H' x' hu => ⟨c, Dv.b hu, kk _ H' (j2.ext x') ((k1.trans k2).trans x'.kp) (fun z => (andE Ext.trans x1 x2 z).trans x') (.ofB c)⟩⟩
theorem k_notInO (kx : KX X U n C) {c : Bool} (m : Own.M X.K Ca "__contains__" g) (F : FO X k g fd ps (spO U Ca 2 run)) (hr : Room k X.A) (hb : Binds X.K fd ps []) (hi : PE X b (tK U C.O cl p1 e e1 (Dat U y))) (ha : PE X a (tK U C.O cl p2 e1 e2 (Lnd U Ca fs))) (hd : ∀ q, run q fs [y] (.bool c)) (hm : behindInMarks .NotIn a = false) :
    PE X (.Compare b [.NotIn] [a] pos) (tK U C.O cl (p1 && p2) e e2 (Dat U (.bool (!c)))) := by
  refine (pe_cmpR (Own.op_notInO m F hr hb (E := E0) pas) hi ha hm).imp fun σ H Q ⟨j, kk⟩ => ?_
  refine ⟨j, fun w H1 j1 k1 x1 hw => ⟨j1, fun v H2 j2 k2 x2 ⟨q, e, ob⟩ => ?_⟩⟩
  obtain ⟨dx, gs, hq⟩ := ob.at
  exact ⟨q, dx, gs, e, hq, rfl, q, [w], [y], fs, .bool c, by rw [e], j2.tabs, ob, dv1 (hw.kp k2), hd q, fun u H' x' hu => ⟨c, Dv.b hu, kk _ H' (j2.ext x') ((k1.trans k2).trans x'.kp) (fun z => (andE Ext.trans x1 x2 z).trans x') (.ofB _)⟩⟩
/-- o(args) -/
theorem k_callO (kx : KX X U n C) {es : List Expr} {ds : List D} (c : StX.CallO X.K Ca g) (F : FnR X.prog X.w X.K X.mg X.base (L2N.CX X.prog X.w) k g (spO U Ca np run)) (hr : Room k X.A) (hf : PE X a (tK U C.O cl p1 e e1 (Lnd U Ca fs))) (ha : PA X (b :: es) (tKA U C.O cl true e1 e1 ds)) (hl : ds.length + 1 = np) (hd : ∀ q, run q fs ds d)
    (ht : eval (.Call a (b :: es) [] pos) X.env = (do callWith pos (← eval a X.env) [] (backTo pos (starEach (b :: es) X.env)) (backToKw pos (keywordEach [] X.env))))
    (he : starEach (b :: es) X.env = (false, eval b X.env) :: starEach es X.env := by rfl) (hpl : (backTo pos (starEach es X.env)).any (·.1) = false := by rfl) : PE X (.Call a (b :: es) [] pos) (tK U C.O cl p1 e e1 (Dat U d)) := by
  refine (StX.pe_callO hf c F hr (E := E0) pas ha ht he hpl).imp fun σ H Q ⟨j, kk⟩ => ?_
  refine ⟨j, fun v H1 j1 k1 x1 ⟨q, e, ob⟩ => ⟨q, e, j1, fun vs H2 j2 k2 x2 hvs => ?_⟩⟩
  have ob2 := ob.ext (x2 rfl)
  obtain ⟨dx, gs, hq⟩ := ob2.at
  exact ⟨.inr ⟨dx, gs, hq⟩, by rw [List.length_cons, hvs.length]; exact hl, q, vs, ds, fs, d, rfl, j2.tabs, ob2, hvs, hd q, fun w H' x' hw => kk w H' (j2.ext x') ((k1.trans k2).trans x'.kp) (fun z => ((x1 z).trans (x2 rfl)).trans x') hw⟩
/-- o op b, what comes back an instance -/
theorem k_binO (kx : KX X U n C) {op : Operator} {run : Addr → List (Str × D) → List D → List (Str × D) → Prop} (m : Own.OpM X.K Ca op g (tyD y)) (F : FO X k g fd ps (spN U Ca Cb 2 run)) (hr : Room k X.A) (hb : Binds X.K fd ps []) (ha : PE X a (tK U C.O cl p1 e e1 (Lnd U Ca fs))) (hi : PE X b (tK U C.O cl true e1 e1 (Dat U y))) (hd : ∀ q, run q fs [y] fs') :
    PE X (.BinOp a op b pos) (tK U C.O cl p1 e e1 (Lnd U Cb fs')) := by
  refine (pe_op (Own.op_binO m F hr hb (E := E0) pas) ha hi).imp fun σ H Q ⟨j, kk⟩ => ?_
  refine ⟨j, fun v H1 j1 k1 x1 ⟨q, e, ob⟩ => ⟨j1, fun w H2 j2 k2 x2 hw => ?_⟩⟩
  have ob2 := ob.ext (x2 rfl)
  obtain ⟨dx, gs, hq⟩ := ob2.at
  refine ⟨q, dx, gs, e, hq, by rw [kx.K]; exact dv_ty (Dv.di hw), rfl, q, [w], [y], fs, fs', by rw [e], j2.tabs, ob2, dv1 hw, hd q, fun r H' x' hw => ⟨⟨r, rfl⟩, kk _ H' (j2.ext x') ((k1.trans k2).trans x'.kp) (fun z => ((x1 z).trans (x2 rfl)).trans x') ⟨r, rfl, hw⟩⟩⟩
/-- ~o -/
theorem k_invO (kx : KX X U n C) {run : Addr → List (Str × D) → List D → List (Str × D) → Prop} (m : Own.M X.K Ca "__invert__" g) (F : FO X k g fd ps (spN U Ca Cb 1 run)) (hr : Room k X.A) (hb : Binds X.K fd ps []) (ha : PE X a (tK U C.O cl p1 e e1 (Lnd U Ca fs))) (hd : ∀ q, run q fs [] fs') : PE X (.UnaryOp .Invert a pos) (tK U C.O cl p1 e e1 (Lnd U Cb fs')) := by
  refine (pe_un (Own.un_invO m F hr hb (E := E0) pas) ha).imp fun σ H Q ⟨j, kk⟩ => ?_
  refine ⟨j, fun v H1 j1 k1 x1 ⟨q, e, ob⟩ => ?_⟩
  obtain ⟨dx, gs, hq⟩ := ob.at
  exact ⟨q, dx, gs, e, hq, rfl, q, [], [], fs, fs', by rw [e], j1.tabs, ob, .nil, hd q, fun r H' x' hw => kk _ H' (j1.ext x') (k1.trans x'.kp) (fun z => (x1 z).trans x') ⟨r, rfl, hw⟩⟩
end
end
end PD
set_option linter.all false
set_option maxRecDepth 100000
set_option maxHeartbeats 1000000
/-! Methods by their bodies; instances made, changed. -/
namespace PD
open PySem PySem.Spec PyProof.Rows L2
/-- the first lines of an __init__ -/
def tKI (U : Wd) (O : List Nat) (cl : Cl) (q : Addr) (e e' : SEnv) : TS := fun D σ H => J U O cl e σ H ∧ ∀ σ' H', J U O cl e' σ' H' → Ko q H H' → D.nx σ' H'
/-- __init__ -/
def spI (U : Wd) (Ca : Addr) (np : Nat) (run : List D → List (Str × D) → Prop) : Sp := fun vs H Q _ => vs.length = np ∧ ∃ q us ds fs' dx, vs = .ref q :: us ∧ LamX.Tabs U.T H ∧ H q = some (.ins Ca dx []) ∧ DvAll U.K H none_ ds us ∧ run ds fs' ∧ ∀ H', LamX.Tabs U.T H' → Ko q H H' → ObA U.K H' Ca q fs' → Q .non H'
/-- a classmethod that makes an instance -/
def spV (U : Wd) (Ca : Addr) (np : Nat) (run : List D → List (Str × D) → Prop) : Sp := fun vs H Q _ => vs.length = np ∧ ∃ us ds fs', vs = .ref Ca :: us ∧ LamX.Tabs U.T H ∧ DvAll U.K H none_ ds us ∧ run ds fs' ∧ ∀ r H', Ext U.T none_ H H' → ObA U.K H' Ca r fs' → Q (.ref r) H'
theorem lookup_putFd (f g : Str) (d : D) : ∀ fs : List (Str × D), (putFd f d fs).lookup g = if g = f then some d else fs.lookup g
  | [] => by
    show List.lookup g [(f, d)] = _
    by_cases h : g = f
    · have hb : (g == f) = true := beq_iff_eq.mpr h
      simp only [List.lookup, hb, if_pos h]
    · have hb : (g == f) = false := beq_eq_false_iff_ne.mpr h
      simp only [List.lookup, hb, if_neg h]
  | (k, x) :: r => by
    unfold putFd
    by_cases hk : k = f
    · rw [if_pos hk]
      subst hk
      rw [List.lookup_cons, List.lookup_cons]
      by_cases h : g = k
      · have hb : (g == k) = true := beq_iff_eq.mpr h
        simp only [hb, if_pos h]
      · have hb : (g == k) = false := beq_eq_false_iff_ne.mpr h
        simp only [hb, if_neg h]
    · rw [if_neg hk, List.lookup_cons, List.lookup_cons, lookup_putFd f g d r]
      by_cases h : g = k
      · have hb : (g == k) = true := beq_iff_eq.mpr h
        have n : ¬ g = f := fun z => hk (h.symm.trans z)
        simp only [hb, if_neg n]
      · have hb : (g == k) = false := beq_eq_false_iff_ne.mpr h
        simp only [hb]
section
variable {X : Cx} {U : Wd} {n : Nat} {C : Ct} {cl : Cl} {e e1 e2 e3 : SEnv} {pos p apos p3 : Pos} {a b : Expr} {p1 p2 : Bool} {x y d : D}
theorem KX.fo (kx : KX X U n C) {k : Nat} {g : Addr} {fd : FuncData} {ps : List Str} {sp : Sp} (F : FnOk U.P U.w U.K U.mg U.base (L2N.CX U.P U.w) k g fd ps sp) : FO X k g fd ps sp := by
  have h1 := kx.eP; have h2 := kx.ew; have h3 := kx.K; have h4 := kx.em; have h5 := kx.eb
  show FnOk X.prog X.w X.K X.mg X.base (L2N.CX X.prog X.w) k g fd ps sp
  rw [h1, h2, h3, h4, h5]
  exact F
theorem KX.gl (kx : KX X U n C) {x : Str} (h : glB C.sc x = true) : Gl X x := by
  obtain ⟨W, G⟩ := kx.gd (fun _ => none)
  exact G.gl h
theorem KX.bl (kx : KX X U n C) {x : Str} (h : C.blts.contains x = true) : X.mg x = none := by
  obtain ⟨W, G⟩ := kx.gd (fun _ => none)
  exact G.bl x h
section
variable {Ca Cb g : Addr} {fd : FuncData} {ps : List Str} {k np : Nat} {fs fs' : List (Str × D)}
/-- f(args), a new instance -/
theorem k_makeO (kx : KX X U n C) {z : Str} {es : List Expr} {ds : List D} {run : List D → List (Str × D) → Prop} (m : Mk X.K Ca g) (F : FO X k g fd ps (spI U Ca np run)) (hr : Room (k + 1) X.A) (hg : Gl X z) (hm : X.mg z = some (.ref Ca)) (hb : Binds X.K fd ps []) (ha : PA X (a :: es) (tKA U C.O cl p1 e e1 ds)) (hl : ds.length + 1 = np) (hd : run ds fs')
    (hdb : (z == ("__debug__" : Str)) = false) (he : starEach (a :: es) X.env = (false, eval a X.env) :: starEach es X.env := by rfl) (hpl : (backTo pos (starEach es X.env)).any (·.1) = false := by rfl) : PE X (.Call (.Name z p) (a :: es) [] pos) (tK U C.O cl p1 e e1 (LndW U cl Ca fs')) := by
  refine (pe_make m F hr hg hm hb .nil (E := E0) pas ha hdb he hpl).imp fun σ H Q ⟨j, kk⟩ => ?_
  refine ⟨j, fun vs H1 j1 k1 x1 hvs q dx hq hdx hne => ?_⟩
  have sm : Same H1 (upd (upd H1 dx (.own q)) q (.ins Ca dx [])) := fun b o h => by
    rw [upd_ne (ne_of_none h hq), upd_ne (ne_of_none h hdx)]; exact h
  have x2 : Ext U.T none_ H1 (upd (upd H1 dx (.own q)) q (.ins Ca dx [])) := .same sm
  refine ⟨by rw [List.append_nil, List.length_cons, hvs.length]; exact hl, q, vs, ds, fs', dx, by rw [List.append_nil], x2.tabs j1.tabs, upd_same, hvs.same sm, hd, fun H' t' ko ob => ⟨rfl, ?_⟩⟩
  have x3 : Ext U.T none_ H1 H' := by
    have kp : ∀ b o, H1 b = some o → (∀ ps, o ≠ .tbl ps) → H' b = some o := fun b o h t => ko b o (sm b o h) (ne_of_none h hq) t
    exact ⟨fun b o h _ t => kp b o h t, fun b xs h => kp b _ h (fun _ z => by cases z), fun b o u h => kp b _ h (fun _ z => by cases z), fun _ => t'⟩
  exact kk _ H' (j1.ext x3) (k1.trans x3.kp) (fun z => (x1 z).trans x3) ⟨q, rfl, ob, j1.fr q H1 hq j1.bs⟩
/-- C.m(args), m a classmethod that makes an instance -/
theorem k_cmethO (kx : KX X U n C) {z m : Str} {es : List Expr} {ds : List D} {mc : Value} {q : Addr} {pl : Sem Bool} {run : List D → List (Str × D) → Prop} (r : ClX.CRead X.K Ca mc) (c : ClX.CMet X.K Ca mc m q g) (F : FnR X.prog X.w X.K X.mg X.base (L2N.CX X.prog X.w) k g (spV U Ca np run)) (hr : Room k X.A) (hg : Gl X z) (hm : X.mg z = some (.ref Ca)) (ha : PA X (a :: es) (tKA U C.O cl p1 e e1 ds)) (hl : ds.length + 1 = np) (hd : run ds fs')
    (hdb : (z == ("__debug__" : Str)) = false) (hst : starEach (a :: es) X.env = (false, eval a X.env) :: starEach es X.env := by rfl) (hpl : (backTo pos (starEach es X.env)).any (·.1) = false := by rfl)
    (ht : eval (.Call (.Attribute (.Name z p) m apos) (a :: es) [] pos) X.env = (do
      let ov ← eval (.Name z p) X.env
      standAt apos.atName
      let (f, first) ← holding [ov] (getMethod ov m pl)
      callWith pos f first (backTo pos (starEach (a :: es) X.env)) (backToKw pos (keywordEach [] X.env)))) :
    PE X (.Call (.Attribute (.Name z p) m apos) (a :: es) [] pos) (tK U C.O cl p1 e e1 (Lnd U Ca fs')) := by
  refine (ClX.pe_cmeth (pe_glob (v := .ref Ca) hg hm rfl hdb) r c F hr (E := E0) pas ha hst hpl ht).imp fun σ H Q ⟨j, kk⟩ => ?_
  refine ⟨rfl, j, fun vs H1 j1 k1 x1 hvs => ?_⟩
  exact ⟨by rw [List.length_cons, hvs.length]; exact hl, vs, ds, fs', rfl, j1.tabs, hvs, hd, fun w H' x' hw => kk _ H' (j1.ext x') (k1.trans x'.kp) (fun z => (x1 z).trans x') ⟨w, rfl, hw⟩⟩
/-- one instance alone stands in the slots -/
def oneIns (e : SEnv) (i : Nat) : Prop := ∀ (k : Nat) (a : Addr) (fs : List (Str × D)), e[k]? = some (.ins a fs) → k = i
theorem J.setIns {σ : Slots} {H H' : Hp} {i : Nat} {q : Addr} (j : J U C.O cl e σ H) (he : e[i]? = some (.ins q fs)) (h1 : oneIns e i) (hc : cl.l.lookup i = some Ca) (ko : Ko q H H') (t : LamX.Tabs U.T H') (ob : ObA U.K H' Ca q fs') : J U C.O cl (e.set i (.ins q fs')) σ H' := by
  obtain ⟨h0, hs, C0, h2, ob0, wr⟩ := j.ins i q fs he
  have k : Kp H H' := by
    obtain ⟨dx, gs, hq, _⟩ := ob0
    exact ko.kp hq
  have hi : i < e.length := (List.getElem?_eq_some_iff.mp he).1
  have at_ : (e.set i (.ins q fs'))[i]? = some (.ins q fs') := by rw [List.getElem?_set, if_pos rfl, if_pos hi]
  have ne_ : ∀ {k : Nat}, k ≠ i → (e.set i (.ins q fs'))[k]? = e[k]? := fun n => by rw [List.getElem?_set, if_neg (fun w => n w.symm)]
  refine ⟨by rw [List.length_set]; exact j.len, t, fun m s h => ?_, fun m d h => ?_, fun m a gs h => ?_, wr _ _ ko j.bs, j.bE, j.fr⟩
  · by_cases hm : m = i
    · rw [hm, at_] at h; cases h; exact .inr (.inr ⟨_, _, rfl⟩)
    · rw [ne_ hm] at h; exact j.only m s h
  · by_cases hm : m = i
    · rw [hm, at_] at h; cases h
    · rw [ne_ hm] at h
      obtain ⟨v, e1, e2⟩ := j.val m d h
      exact ⟨v, e1, Dv.thru k.thru d e2⟩
  · by_cases hm : m = i
    · rw [hm, at_] at h
      cases h
      rw [hm]
      exact ⟨h0, hs, Ca, hc, ob, wr⟩
    · rw [ne_ hm] at h
      exact absurd (h1 m a gs h) hm
/-- r.m(args): the instance in the slot changes -/
theorem k_mutO (kx : KX X U n C) {i : Nat} {z m : Str} {es : List Expr} {ds : List D} {q : Addr} {pl : Sem Bool} {run : Addr → List (Str × D) → List D → List (Str × D) → D → Prop} (c : Cls X.K Ca) (hm : Meth X.K Ca m g) (F : FO X k g fd ps (spW U Ca np run)) (hr : Room k X.A) (hb : Binds X.K fd ps [])
    (hi : slotOf C.N z = some i) (hz : okName z = true) (hv : visB C.sc z = true) (he : e[i]? = some (.ins q fs)) (h1 : oneIns e i) (hc : cl.l.lookup i = some Ca) (hn : fs.lookup m = none) (ha : PA X (a :: es) (tKA U C.O cl true e e ds)) (hl : ds.length + 1 = np) (hd : run q fs ds fs' d)
    (hst : starEach (a :: es) X.env = (false, eval a X.env) :: starEach es X.env := by rfl) (hpl : (backTo pos (starEach es X.env)).any (·.1) = false := by rfl)
    (ht : eval (.Call (.Attribute (.Name z p) m apos) (a :: es) [] pos) X.env = (do
      let ov ← eval (.Name z p) X.env
      standAt apos.atName
      let (f, first) ← holding [ov] (getMethod ov m pl)
      callWith pos f first (backTo pos (starEach (a :: es) X.env)) (backToKw pos (keywordEach [] X.env)))) :
    PE X (.Call (.Attribute (.Name z p) m apos) (a :: es) [] pos) (tK U C.O cl false e (e.set i (.ins q fs')) (Dat U d)) := by
  obtain ⟨W, G⟩ := kx.gd (fun _ => none)
  obtain ⟨z1, z2, z3⟩ := okName_1 hz
  refine (pe_meth (pe_var (G.slot hi) (G.vis hv) z1 z2) c hm F hr hb .nil (E := E0) pas ha hst hpl ht).imp fun σ H Q ⟨j, kk⟩ => ?_
  obtain ⟨_, hs, C', h2, ob, wr⟩ := j.ins i q fs he
  rw [hc] at h2
  cases h2
  obtain ⟨dx, gs, hq, hgs, _⟩ := id ob
  refine ⟨_, hs, q, dx, gs, rfl, hq, hgs.none hn, j, fun vs H1 j1 k1 x1 hvs => ?_⟩
  show spW U Ca np run (V.ref q :: (vs ++ [])) H1 Q E0
  rw [List.append_nil]
  exact ⟨by rw [List.length_cons, hvs.length]; exact hl, q, vs, ds, fs, fs', d, rfl, j1.tabs, ob.ext (x1 rfl), hvs, hd, fun w H' k' t' ob' hw => kk w H' (j1.setIns he h1 hc k' t' ob') (k1.trans (k'.kp ((x1 rfl).keep q _ hq (fun z => z) fun _ z => by cases z))) (fun z => by cases z) hw⟩
theorem k_mutO0 (kx : KX X U n C) {i : Nat} {z m : Str} {q : Addr} {pl : Sem Bool} {run : Addr → List (Str × D) → List D → List (Str × D) → D → Prop} (c : Cls X.K Ca) (hm : Meth X.K Ca m g) (F : FO X k g fd ps (spW U Ca 1 run)) (hr : Room k X.A) (hb : Binds X.K fd ps [])
    (hi : slotOf C.N z = some i) (hz : okName z = true) (hv : visB C.sc z = true) (he : e[i]? = some (.ins q fs)) (h1 : oneIns e i) (hc : cl.l.lookup i = some Ca) (hn : fs.lookup m = none) (hd : run q fs [] fs' d)
    (ht : eval (.Call (.Attribute (.Name z p) m apos) [] [] pos) X.env = (do
      let ov ← eval (.Name z p) X.env
      standAt apos.atName
      let (f, first) ← holding [ov] (getMethod ov m pl)
      callWith pos f first (backTo pos (starEach [] X.env)) (backToKw pos (keywordEach [] X.env)))) :
    PE X (.Call (.Attribute (.Name z p) m apos) [] [] pos) (tK U C.O cl false e (e.set i (.ins q fs')) (Dat U d)) := by
  obtain ⟨W, G⟩ := kx.gd (fun _ => none)
  obtain ⟨z1, z2, z3⟩ := okName_1 hz
  refine (pe_meth0 (pe_var (G.slot hi) (G.vis hv) z1 z2) c hm F hr hb .nil (E := E0) pas ht).imp fun σ H Q ⟨j, kk⟩ => ?_
  obtain ⟨_, hs, C', h2, ob, wr⟩ := j.ins i q fs he
  rw [hc] at h2
  cases h2
  obtain ⟨dx, gs, hq, hgs, _⟩ := id ob
  refine ⟨_, hs, q, dx, gs, rfl, hq, hgs.none hn, ?_⟩
  exact ⟨rfl, q, [], [], fs, fs', d, rfl, j.tabs, ob, .nil, hd, fun w H' k' t' ob' hw => kk w H' (j.setIns he h1 hc k' t' ob') (k'.kp hq) (fun z => by cases z) hw⟩
/-- self.f = E -/
theorem fld_core (kx : KX X U n C) {i : Nat} {z f : Str} {q : Addr} (hi : slotOf C.N z = some i) (hz : okName z = true) (hv : visB C.sc z = true) (he : e[i]? = some (.ins q fs)) (h1 : oneIns e i) (hc : cl.l.lookup i = some Ca) (hf : NoAttr X.K Ca f) (hl : fs.length < 890) (ha : PE X a (tK U C.O cl true e e (Dat U d)))
    (hs : swapsWith a (some (.Attribute (.Name z p) f p3)) pos.line X.env = pure false := by rfl) : PS X (.Assign [.Attribute (.Name z p) f p3] a pos) (fun D σ H => J U C.O cl e σ H ∧ ∀ H', J U C.O cl (e.set i (.ins q (putFd f d fs))) σ H' → Ko q H H' → Kp H H' → D.nx σ H') := by
  obtain ⟨W, G⟩ := kx.gd (fun _ => none)
  obtain ⟨z1, z2, z3⟩ := okName_1 hz
  refine (ps_fld (pe_var (G.slot hi) (G.vis hv) z1 z2) ha hs).imp fun D σ H ⟨j, kk⟩ => ?_
  refine ⟨j, fun v H1 j1 k1 x1 hv => ?_⟩
  obtain ⟨_, hs, C', h2, ob, wr⟩ := j1.ins i q fs he
  rw [hc] at h2
  cases h2
  obtain ⟨dx, gs, hq, hgs, h900, hcl, hna⟩ := id ob
  have hgl := hgs.length
  refine ⟨_, hs, q, Ca, dx, gs, rfl, hq, by rw [kx.K]; exact hcl, hf, by omega, ?_⟩
  have ko : Ko q H1 (upd H1 q (.ins Ca dx (putF f v gs))) := fun b o h nq t => by rw [upd_ne nq]; exact h
  have kp : Kp H1 (upd H1 q (.ins Ca dx (putF f v gs))) := fun b o h ni t => by
    have nq : b ≠ q := fun w => by rw [w, hq] at h; cases h; exact ni _ _ _ rfl
    rw [upd_ne nq]; exact h
  have t' : LamX.Tabs U.T (upd H1 q (.ins Ca dx (putF f v gs))) := fun pr hp => by
    obtain ⟨ps, w1, w2, w3⟩ := j1.tabs pr hp
    have k : ∀ b o, H1 b = some o → (∀ C dx fs, o ≠ .ins C dx fs) → upd H1 q (.ins Ca dx (putF f v gs)) b = some o := fun b o h ni => by
      have nq : b ≠ q := fun w => by rw [w, hq] at h; cases h; exact ni _ _ _ rfl
      rw [upd_ne nq]; exact h
    refine ⟨ps, k _ _ w1 (fun _ _ _ z => by cases z), w2, fun pos cv hc => ?_⟩
    obtain ⟨c, e1, e2⟩ := w3 pos cv hc
    refine ⟨c, e1, ?_⟩
    have := e2
    exact k _ _ e2 (fun _ _ _ z => by cases z)
  refine kk _ (j1.setIns he h1 hc ko t' ⟨dx, putF f v gs, upd_same, FldR.put (Dv.thru kp.thru d hv) (hgs.thru kp.thru), ?_, hcl, fun y d' q' => ?_⟩) (Ko.trans (x1 rfl).ko ko) (k1.trans kp)
  · have := putFd_len f d fs
    omega
  · rw [lookup_putFd] at q'
    split at q'
    · rename_i ey; rw [ey, ← kx.K]; exact hf
    · exact hna y d' q'
end
end
end PD
set_option linter.all false
set_option maxRecDepth 100000
set_option maxHeartbeats 1000000
/-! Methods keep their promises. -/
namespace PD
open PySem PySem.Spec PyProof.Rows L2
section
variable {X : Cx} {U : Wd} {n : Nat} {C : Ct} {cl : Cl} {e e1 e2 e3 : SEnv} {pos p apos p3 : Pos} {a b : Expr} {p1 p2 : Bool} {x y d : D} {Ca Cb g : Addr} {fs fs' : List (Str × D)}
theorem kS_fld (kx : KX X U n C) {i : Nat} {z f : Str} {q : Addr} (hi : slotOf C.N z = some i) (hz : okName z = true) (hv : visB C.sc z = true) (he : e[i]? = some (.ins q fs)) (h1 : oneIns e i) (hc : cl.l.lookup i = some Ca) (hf : NoAttr X.K Ca f) (hl : fs.length < 890) (ha : PE X a (tK U C.O cl true e e (Dat U d)))
    (hs : swapsWith a (some (.Attribute (.Name z p) f p3)) pos.line X.env = pure false := by rfl) : PS X (.Assign [.Attribute (.Name z p) f p3] a pos) (tKS U C.O cl false e (e.set i (.ins q (putFd f d fs)))) :=
  (fld_core kx hi hz hv he h1 hc hf hl ha hs).imp fun D σ H ⟨j, k⟩ => ⟨j, fun H' j' _ kp => k σ H' j' kp (fun z => by cases z)⟩
theorem kI_fld (kx : KX X U n C) {i : Nat} {z f : Str} {q : Addr} (hi : slotOf C.N z = some i) (hz : okName z = true) (hv : visB C.sc z = true) (he : e[i]? = some (.ins q fs)) (h1 : oneIns e i) (hc : cl.l.lookup i = some Ca) (hf : NoAttr X.K Ca f) (hl : fs.length < 890) (ha : PE X a (tK U C.O cl true e e (Dat U d)))
    (hs : swapsWith a (some (.Attribute (.Name z p) f p3)) pos.line X.env = pure false := by rfl) : PS X (.Assign [.Attribute (.Name z p) f p3] a pos) (tKI U C.O cl q e (e.set i (.ins q (putFd f d fs)))) :=
  (fld_core kx hi hz hv he h1 hc hf hl ha hs).imp fun D σ H ⟨j, k⟩ => ⟨j, fun H' j' ko _ => k σ H' j' ko⟩
theorem kI_of {st : Stmt} {q : Addr} (h : PS X st (tKS U C.O cl true e e1)) : PS X st (tKI U C.O cl q e e1) := h.imp fun D σ H ⟨j, k⟩ => ⟨j, fun σ' H' j' _ x' => k σ' H' j' (x' rfl).ko⟩
theorem kI_one {st : Stmt} {q : Addr} (h : PS X st (tKI U C.O cl q e e1)) : PSs X [st] (tKI U C.O cl q e e1) := pss_one h
theorem kI_cons {st : Stmt} {rest : List Stmt} {q : Addr} (h1 : PS X st (tKI U C.O cl q e e1)) (h2 : PSs X rest (tKI U C.O cl q e1 e2)) : PSs X (st :: rest) (tKI U C.O cl q e e2) :=
  (pss_cons h1 h2).imp fun D σ H ⟨j, k⟩ => ⟨j, fun σ1 H1 j1 k1 => ⟨j1, fun σ2 H2 j2 k2 => k σ2 H2 j2 (k1.trans k2)⟩⟩
/-- a whole plain body -/
theorem kB_plain (kx : KX X U n C) {sts : List Stmt} {m : MSs} {B : Bg} (hc : cSs 40 C sts = some m) (hev : evSs (tab U.Pg n) m e [] = .ok (.rt d, B)) : PSs X sts (tKB U C.O cl true e e (Dat U d)) := by
  refine ⟨fun pins s σ H D I ⟨j, k⟩ => ?_⟩
  obtain ⟨W, G⟩ := kx.gd H
  refine (cSs_ok 40 X _ W C sts m G hc).run pins s σ H D I ⟨e, [], j.si, ?_⟩
  show Wish _ W C.new (evSs (tab U.Pg n) m e []) D
  rw [hev]
  intro v H' r
  have x : Ext U.T none_ H H' := r.ext.noM fun a z => by cases z
  exact k σ v H' (j.ext x) x.kp (fun _ => x) r.dv
/-- a block that gives a value back, its slots left open -/
def tKR (U : Wd) (O : List Nat) (cl : Cl) (pr : Bool) (e : SEnv) (P : V → Hp → Prop) : TS := fun D σ H => J U O cl e σ H ∧ ∀ v H', LamX.Tabs U.T H' → cl.Bs H' → Kp H H' → (pr = true → Ext U.T none_ H H') → P v H' → D.rt v H'
theorem kR_of {sts : List Stmt} {P : V → Hp → Prop} (h : PSs X sts (tKB U C.O cl p1 e e1 P)) : PSs X sts (tKR U C.O cl p1 e P) := h.imp fun D σ H ⟨j, k⟩ => ⟨j, fun σ' v H' j' k' x' hv => k v H' j'.tabs j'.bs k' x' hv⟩
theorem kR_cons {st : Stmt} {rest : List Stmt} {P : V → Hp → Prop} (h1 : PS X st (tKS U C.O cl p1 e e1)) (h2 : PSs X rest (tKR U C.O cl p2 e1 P)) : PSs X (st :: rest) (tKR U C.O cl (p1 && p2) e P) :=
  (pss_cons h1 h2).imp fun D σ H ⟨j, k⟩ => ⟨j, fun σ1 H1 j1 k1 x1 => ⟨j1, fun v H2 t2 b2 k2 x2 hv => k v H2 t2 b2 (k1.trans k2) (andE Ext.trans x1 x2) hv⟩⟩
/-- a store to a name -/
theorem kR_setI (kx : KX X U n C) {i : Nat} {z : Str} (hi : slotOf C.N z = some i) (hl : locB C z = true) (ha : PE X a (tK U C.O cl p1 e e1 (LndW U cl Ca fs))) (hO : i ∈ C.O) (hil : i < e1.length) (hc : cl.l.lookup i = some Ca)
    (hs : swapsWith a (some (.Name z p)) pos.line X.env = pure false := by rfl) {rest : List Stmt} {P : V → Hp → Prop} (hr : ∀ q, PSs X rest (tKR U C.O cl p2 (e1.set i (.ins q fs)) P)) : PSs X (.Assign [.Name z p] a pos :: rest) (tKR U C.O cl (p1 && p2) e P) := by
  obtain ⟨W, G⟩ := kx.gd (fun _ => none)
  obtain ⟨l1, l2⟩ := locB_ok G.toGd hl
  have hr' : PSs X rest (fun D σ H => ∃ q, tKR U C.O cl p2 (e1.set i (.ins q fs)) P D σ H) := ⟨fun pins s σ H D I ⟨q, h⟩ => (hr q).run pins s σ H D I h⟩
  refine (pss_cons (ps_set (i := i) G.nd (G.slot hi) l1 ha hs l2) hr').imp fun D σ H ⟨j, k⟩ => ?_
  refine ⟨j, fun v H1 j1 k1 x1 ⟨q, e, ob, wq⟩ => ?_⟩
  subst e
  refine ⟨q, ?_, fun v H' t' b' k' x' hv => k v H' t' b' (k1.trans k') (andE Ext.trans x1 x') hv⟩
  have at_ : (e1.set i (.ins q fs))[i]? = some (.ins q fs) := by rw [List.getElem?_set, if_pos rfl, if_pos hil]
  have ne_ : ∀ {k : Nat}, k ≠ i → (e1.set i (.ins q fs))[k]? = e1[k]? := fun n => by rw [List.getElem?_set, if_neg (fun w => n w.symm)]
  have nes : ∀ {k : Nat}, k ≠ i → (σ.set i (some (V.ref q)))[k]? = σ[k]? := fun n => by rw [List.getElem?_set, if_neg (fun w => n w.symm)]
  refine ⟨by rw [List.length_set, List.length_set]; exact j1.len, j1.tabs, fun m s h => ?_, fun m d h => ?_, fun m a gs h => ?_, j1.bs, j1.bE, j1.fr⟩
  · by_cases hm : m = i
    · rw [hm, at_] at h; cases h; exact .inr (.inr ⟨_, _, rfl⟩)
    · rw [ne_ hm] at h; exact j1.only m s h
  · by_cases hm : m = i
    · rw [hm, at_] at h; cases h
    · rw [ne_ hm] at h
      obtain ⟨v, e1, e2⟩ := j1.val m d h
      exact ⟨v, by rw [nes hm]; exact e1, e2⟩
  · by_cases hm : m = i
    · rw [hm, at_] at h
      cases h
      rw [hm]
      exact ⟨hO, by rw [List.getElem?_set, if_pos rfl, if_pos (by rw [← j1.len]; exact hil)], Ca, hc, ob, wq⟩
    · rw [ne_ hm] at h
      obtain ⟨w1, w2, w3⟩ := j1.ins m a gs h
      exact ⟨w1, by rw [nes hm]; exact w2, w3⟩
end
/-! ### where a body begins -/
section
variable {U : Wd} {n : Nat} {C : Ct} {Ca Cb g : Addr} {fs fs' : List (Str × D)} {ds : List D} {vs : List V} {H : Hp} {N : List Str}
def eS (q : Addr) (fs : List (Str × D)) (ds : List D) (nl : Nat) : SEnv := .ins q fs :: (ds.map .val ++ List.replicate (nl - (ds.length + 1)) .emp)
def eD (ds : List D) (nl : Nat) : SEnv := ds.map .val ++ List.replicate (nl - ds.length) .emp
/-- nothing is asked -/
def cl0 (l : List (Nat × Addr)) : Cl := ⟨l, fun _ => True⟩
/-- all but the instance at q -/
def clW (q : Addr) (H : Hp) (l : List (Nat × Addr)) : Cl := ⟨l, Ko q H⟩
/-- all that stood -/
def clA (H : Hp) (l : List (Nat × Addr)) : Cl := ⟨l, fun H' => ∀ a o, H a = some o → (∀ ps, o ≠ .tbl ps) → H' a = some o⟩
structure ClOk (U : Wd) (cl : Cl) (H : Hp) : Prop where
  bs : cl.Bs H
  bE : ∀ H H', Ext U.T none_ H H' → cl.Bs H → cl.Bs H'
  fr : ∀ q H, H q = none → cl.Bs H → Wr cl q
theorem cl0_ok {l : List (Nat × Addr)} : ClOk U (cl0 l) H := ⟨trivial, fun _ _ _ h => h, fun _ _ _ _ _ _ _ h => h⟩
theorem clW_ok {q : Addr} {l : List (Nat × Addr)} : ClOk U (clW q H l) H := ⟨fun _ _ h _ _ => h, fun _ _ x h => h.trans x.ko, fun r H1 hr k Ha Hb kr ka a o h n t => by
  have h1 := ka a o h n t
  by_cases w : a = r
  · have := k a o h n t
    rw [w, hr] at this; cases this
  · exact kr a o h1 w t⟩
theorem clW_wr {q : Addr} {l : List (Nat × Addr)} : Wr (clW q H l) q := fun _ _ k h => h.trans k
theorem clA_ok {l : List (Nat × Addr)} : ClOk U (clA H l) H := ⟨fun _ _ h _ => h, fun _ _ x h a o e t => x.keep a o (h a o e t) (fun z => z) t, fun r H1 hr k Ha Hb kr ka a o h t => by
  have h1 := ka a o h t
  by_cases w : a = r
  · have := k a o h t
    rw [w, hr] at this; cases this
  · exact kr a o h1 w t⟩
theorem j_start {O : List Nat} {cl : Cl} {q : Addr} {us : List V} (hO : 0 ∈ O) (hcl : cl.l = [(0, Ca)]) (ck : ClOk U cl H) (wr : Wr cl q) (ht : LamX.Tabs U.T H) (ob : ObA U.K H Ca q fs) (hv : DvAll U.K H none_ ds us) : J U O cl (eS q fs ds N.length) (L2.start N (.ref q :: us)) H := by
  have no : ∀ {i : Nat} {s : Sl}, (ds.map Sl.val ++ List.replicate (N.length - (ds.length + 1)) Sl.emp)[i]? = some s → s = .emp ∨ ∃ d, s = .val d := fun h => start_only h
  refine ⟨?_, ht, fun i s h => ?_, fun i d h => ?_, fun i a gs h => ?_, ck.bs, ck.bE, ck.fr⟩
  · unfold eS
    rw [start_len, List.length_cons, List.length_cons, hv.length]; simp; omega
  · cases i with
    | zero => cases h; exact .inr (.inr ⟨_, _, rfl⟩)
    | succ i => rcases no (by simpa [eS] using h) with z | ⟨d, z⟩
                · exact .inl z
                · exact .inr (.inl ⟨d, z⟩)
  · cases i with
    | zero => cases h
    | succ i =>
      obtain ⟨v, h1, h2⟩ := hv.get (start_val (by simpa [eS] using h))
      exact ⟨v, start_slot (by simpa using h1), h2⟩
  · cases i with
    | zero => cases h; exact ⟨hO, start_slot rfl, Ca, by rw [hcl]; rfl, ob, wr⟩
    | succ i => rcases no (by simpa [eS] using h) with z | ⟨d, z⟩ <;> cases z
theorem j_startD {O : List Nat} {cl : Cl} (ck : ClOk U cl H) (ht : LamX.Tabs U.T H) (hv : DvAll U.K H none_ ds vs) : J U O cl (eD ds N.length) (L2.start N vs) H := by
  refine ⟨?_, ht, fun i s h => ?_, fun i d h => ?_, fun i a gs h => ?_, ck.bs, ck.bE, ck.fr⟩
  · unfold eD; rw [start_len, hv.length]; simp
  · rcases start_only h with z | ⟨d, z⟩
    · exact .inl z
    · exact .inr (.inl ⟨d, z⟩)
  · obtain ⟨v, h1, h2⟩ := hv.get (start_val h)
    exact ⟨v, start_slot h1, h2⟩
  · rcases start_only h with z | ⟨d, z⟩ <;> cases z
/-- a method's start in a classmethod: the first slot holds the class -/
theorem j_startV {O : List Nat} {cl : Cl} {w : V} {us : List V} (ck : ClOk U cl H) (ht : LamX.Tabs U.T H) (hv : DvAll U.K H none_ ds us) : J U O cl (.emp :: (ds.map .val ++ List.replicate (N.length - (ds.length + 1)) .emp)) (L2.start N (w :: us)) H := by
  refine ⟨?_, ht, fun i s h => ?_, fun i d h => ?_, fun i a gs h => ?_, ck.bs, ck.bE, ck.fr⟩
  · rw [start_len, List.length_cons, List.length_cons, hv.length]; simp; omega
  · cases i with
    | zero => cases h; exact .inl rfl
    | succ i => rcases start_only (by simpa using h) with z | ⟨d, z⟩
                · exact .inl z
                · exact .inr (.inl ⟨d, z⟩)
  · cases i with
    | zero => cases h
    | succ i =>
      obtain ⟨v, h1, h2⟩ := hv.get (start_val (by simpa using h))
      exact ⟨v, start_slot (by simpa using h1), h2⟩
  · cases i with
    | zero => cases h
    | succ i => rcases start_only (by simpa using h) with z | ⟨d, z⟩ <;> cases z
variable {x qual : Str} {params : Arguments} {body : List Stmt} {scope : Scope} {fd : FuncData} {ps : List Str} {k np m : Nat}
/-- what every def of the text here has -/
structure DefH (U : Wd) (n k : Nat) (C : Ct) (ps : List Str) (scope : Scope) : Prop where
  kn : U.knows n C.fns
  fc : U.facts C.gcs C.excs C.blts
  S : FnScope C.N ps scope
  sc : C.sc = scope
  lm : C.lams = []
  hk : 3 * n ≤ k
theorem fn_gen {sp : Sp} (h : DefH U n k C ps scope) (Fd : FunD U.K x qual params body scope [] [] g fd) (len : ∀ vs H Q E, sp vs H Q E → vs.length = ps.length)
    (hb : ∀ (X : Cx), KX X U n C → Room k X.A → ∀ vs H Q E, sp vs H Q E → ∃ t, PSs X body t ∧ t { nx := fun _ H' => Q .non H', rt := Q } (L2.start C.N vs) H) : FnOk U.P U.w U.K U.mg U.base (L2N.CX U.P U.w) (k + 1) g fd ps sp := by
  refine Fd.ok (k := k) h.S len fun cdv A outer s H vs Q E hr hsp => ?_
  exact hb _ ⟨fun H0 => ⟨_, gdS (U := U) (n := n) (C := C) (qual := qual) (scope := scope) (f := g) (cdv := cdv) (A := A) (outer := outer) (s := s) (H := H) (E := E) (b0 := none) (A0 := none_) h.kn h.fc h.S.nd h.sc h.S.kind (fun _ => rfl) (hr.mono h.hk) (fun x lb hx => by rw [h.lm] at hx; cases hx) |> fun G => ⟨⟨G.N, G.nd, G.sc, G.top, G.calm, G.K, G.O, G.un, G.tk, G.fn, G.fb, G.gc, G.bl, fun x lb hx => by rw [h.lm] at hx; cases hx⟩, G.po, G.kind, G.ex, fun _ => rfl⟩⟩, rfl, rfl, rfl, rfl⟩ hr vs H Q E hsp
/-- read only, a datum back -/
theorem fnO {run : Addr → List (Str × D) → List D → D → Prop} (h : DefH U n k C ps scope) (Fd : FunD U.K x qual params body scope [] [] g fd) (hO : 0 ∈ C.O) (hb : ∀ (X : Cx), KX X U n C → Room k X.A → ∀ q fs ds d, ds.length + 1 = ps.length → run q fs ds d → ∃ e', PSs X body (tKB U C.O (cl0 [(0, Ca)]) true (eS q fs ds C.N.length) e' (Dat U d))) :
    FnOk U.P U.w U.K U.mg U.base (L2N.CX U.P U.w) (k + 1) g fd ps (spO U Ca ps.length run) := by
  refine fn_gen h Fd (fun vs H Q E h => h.1) fun X kx hr vs H Q E ⟨hl, q, us, ds, fs, d, e, ht, ob, hv, hd, hq⟩ => ?_
  subst e
  obtain ⟨e', w⟩ := hb X kx hr q fs ds d (by rw [← hl, List.length_cons, hv.length]) hd
  exact ⟨_, w, j_start hO rfl cl0_ok (fun _ _ _ h => h) ht ob hv, fun σ' v H' j' k' x' hv => hq v H' (x' rfl) hv⟩
theorem fnN {run : Addr → List (Str × D) → List D → List (Str × D) → Prop} (h : DefH U n k C ps scope) (Fd : FunD U.K x qual params body scope [] [] g fd) (hO : 0 ∈ C.O) (hb : ∀ (X : Cx), KX X U n C → Room k X.A → ∀ q fs ds fs', ds.length + 1 = ps.length → run q fs ds fs' → ∃ e', PSs X body (tKB U C.O (cl0 [(0, Ca)]) true (eS q fs ds C.N.length) e' (Lnd U Cb fs'))) :
    FnOk U.P U.w U.K U.mg U.base (L2N.CX U.P U.w) (k + 1) g fd ps (spN U Ca Cb ps.length run) := by
  refine fn_gen h Fd (fun vs H Q E h => h.1) fun X kx hr vs H Q E ⟨hl, q, us, ds, fs, fs', e, ht, ob, hv, hd, hq⟩ => ?_
  subst e
  obtain ⟨e', w⟩ := hb X kx hr q fs ds fs' (by rw [← hl, List.length_cons, hv.length]) hd
  exact ⟨_, w, j_start hO rfl cl0_ok (fun _ _ _ h => h) ht ob hv, fun σ' v H' j' k' x' ⟨r, e, hr⟩ => by subst e; exact hq r H' (x' rfl) hr⟩
/-- the instance changes, a datum back -/
theorem fnW {run : Addr → List (Str × D) → List D → List (Str × D) → D → Prop} (h : DefH U n k C ps scope) (Fd : FunD U.K x qual params body scope [] [] g fd) (hO : 0 ∈ C.O) (hb : ∀ (X : Cx), KX X U n C → Room k X.A → ∀ q fs ds fs' d, ds.length + 1 = ps.length → run q fs ds fs' d →
      ∀ cl : Cl, cl.l = [(0, Ca)] → ∃ e', e'[0]? = some (.ins q fs') ∧ (PSs X body (tKB U C.O cl false (eS q fs ds C.N.length) e' (Dat U d)) ∨ (d = .none ∧ PSs X body (tKS U C.O cl false (eS q fs ds C.N.length) e')))) :
    FnOk U.P U.w U.K U.mg U.base (L2N.CX U.P U.w) (k + 1) g fd ps (spW U Ca ps.length run) := by
  refine fn_gen h Fd (fun vs H Q E h => h.1) fun X kx hr vs H Q E ⟨hl, q, us, ds, fs, fs', d, e, ht, ob, hv, hd, hq⟩ => ?_
  subst e
  obtain ⟨e', h0, w⟩ := hb X kx hr q fs ds fs' d (by rw [← hl, List.length_cons, hv.length]) hd (clW q H [(0, Ca)]) rfl
  have fin : ∀ {σ' : Slots} {H' : Hp}, J U C.O (clW q H [(0, Ca)]) e' σ' H' → ObA U.K H' Ca q fs' := fun j' => by
    obtain ⟨_, _, C', h2, ob', _⟩ := j'.ins 0 q fs' h0
    cases h2
    exact ob'
  rcases w with w | ⟨rfl, w⟩
  · exact ⟨_, w, j_start hO rfl clW_ok clW_wr ht ob hv, fun σ' v H' j' k' x' hv => hq v H' j'.bs j'.tabs (fin j') hv⟩
  · exact ⟨_, w, j_start hO rfl clW_ok clW_wr ht ob hv, fun σ' H' j' k' x' => hq .non H' j'.bs j'.tabs (fin j') .ofN⟩
/-- __init__ -/
theorem fnI {run : List D → List (Str × D) → Prop} (h : DefH U n k C ps scope) (Fd : FunD U.K x qual params body scope [] [] g fd) (hO : 0 ∈ C.O) (hcl : Cls U.K Ca) (hb : ∀ (X : Cx), KX X U n C → Room k X.A → ∀ q ds fs', ds.length + 1 = ps.length → run ds fs' →
      ∃ e', e'[0]? = some (.ins q fs') ∧ PSs X body (tKI U C.O (cl0 [(0, Ca)]) q (eS q [] ds C.N.length) e')) : FnOk U.P U.w U.K U.mg U.base (L2N.CX U.P U.w) (k + 1) g fd ps (spI U Ca ps.length run) := by
  refine fn_gen h Fd (fun vs H Q E h => h.1) fun X kx hr vs H Q E ⟨hl, q, us, ds, fs', dx, e, ht, hi, hv, hd, hq⟩ => ?_
  subst e
  obtain ⟨e', h0, w⟩ := hb X kx hr q ds fs' (by rw [← hl, List.length_cons, hv.length]) hd
  refine ⟨_, w, j_start hO rfl cl0_ok (fun _ _ _ h => h) ht ⟨dx, [], hi, trivial, by show 0 < 900; decide, hcl, fun _ _ z => by cases z⟩ hv, fun σ' H' j' k' => hq H' j'.tabs k' ?_⟩
  obtain ⟨_, _, C', h2, ob', _⟩ := j'.ins 0 q fs' h0
  cases h2
  exact ob'
/-- a def over data -/
theorem fnD {call : List D → R D} (h : DefH U n k C ps scope) (Fd : FunD U.K x qual params body scope [] [] g fd) (l : List (Nat × Addr)) (hb : ∀ (X : Cx), KX X U n C → Room k X.A → ∀ ds, ds.length = ps.length → call ds = .ok (.bool true) → ∀ cl : Cl, cl.l = l → ∃ t, PSs X body t ∧ ∀ σ H D, J U C.O cl (eD ds C.N.length) σ H → (∀ v H', LamX.Tabs U.T H' → cl.Bs H' → Dat U (.bool true) v H' → D.rt v H') → t D σ H)
    (he : ∀ ds, call ds = .ok (.bool true) ∨ call ds = .stuck) {id : Nat} (hc : ∀ ds, callP U.Pg (m + 1) id ds = call ds) : FnOk U.P U.w U.K U.mg U.base (L2N.CX U.P U.w) (k + 1) g fd ps (spP U.T U.cls (callP U.Pg (m + 1)) false U.K id ps.length) := by
  refine fn_gen h Fd (fun vs H Q E h => h.1) fun X kx hr vs H Q E ⟨hl, A0, ds, dA, ht, hv, hq⟩ => ?_
  rw [hc] at hq
  rcases he ds with hd | hd
  · rw [hd] at hq
    obtain ⟨t, w, ht'⟩ := hb X kx hr ds (by rw [← hl, hv.length]) hd (clA H l) rfl
    refine ⟨t, w, ht' _ _ _ (j_startD clA_ok ht (hv.less fun a z => z.elim)) fun v H' t' b' hv' => hq v H' ⟨fun a o h _ z => b' a o h z, fun a xs h => b' a _ h (fun _ z => by cases z), fun a o u h => b' a _ h (fun _ z => by cases z), fun _ => t'⟩ (by rw [Dv.b hv']; exact .ofB _) (fun z => by cases z)⟩
  · rw [hd] at hq
    exact hq.elim
end
end PD
set_option linter.all false
set_option maxRecDepth 100000
set_option maxHeartbeats 1000000
/-! A generator method that hands out a text a turn. -/
namespace PD
open PySem PySem.Spec PyProof.Rows L2
theorem for_listG {K : PySem.W.Frag} {a : Addr} {xs : List V} {g : TG} {tb : TGn} {D : GEnds} {ys : List V} {σ : L2.St} {H : Hp} (Pv : Nat → List V → L2.St → Hp → Prop) (h0 : Pv 0 ys σ H) (hl : ∀ i ys σ H, i ≤ xs.length → Pv i ys σ H → SqL K H a xs)
    (hs : ∀ i x ys σ H, xs[i]? = some x → Pv i ys σ H → g x σ H fun σ2 H2 => tb { D with nx := Pv (i + 1), ct := Pv (i + 1), bk := D.nx } ys σ2 H2) (hd : ∀ ys σ H, Pv xs.length ys σ H → D.nx ys σ H) :
    ∃ W : Nat → Nat → List V → L2.St → Hp → Prop, (∃ m, W 0 m ys σ H) ∧ ∀ i m ys σ H, W i m ys σ H →
      ((Itl K a).stop i H ∧ D.nx ys σ H) ∨ ((Itl K a).go i H ∧ ∃ N : List V → L2.St → Hp → Prop, (∀ ys' σ' H', N ys' σ' H' → ∃ m', m' < m ∧ W (i + 1) m' ys' σ' H') ∧ ∀ x H', (Itl K a).yld i H x H' → g x σ H' fun σ2 H2 => tb { D with nx := N, ct := N, bk := D.nx } ys σ2 H2) := by
  refine ⟨fun i m ys σ H => m = xs.length - i ∧ i ≤ xs.length ∧ Pv i ys σ H, ⟨xs.length, by simp, Nat.zero_le _, h0⟩, ?_⟩
  rintro i m ys σ H ⟨rfl, hi, p⟩
  have q := hl i ys σ H hi p
  by_cases hlt : i < xs.length
  · refine .inr ⟨⟨xs, xs[i], q, by simp [hlt]⟩, Pv (i + 1), fun ys' σ' H' p' => ⟨xs.length - (i + 1), by omega, rfl, hlt, p'⟩, fun x H' y => ?_⟩
    obtain ⟨e, y⟩ := y
    subst e
    exact hs i x ys σ _ (y xs q) p
  · have e : i = xs.length := by omega
    subst e
    exact .inl ⟨⟨xs, q, Nat.le_refl _⟩, hd ys σ H p⟩
section
variable {X : Cx} {U : Wd} {n : Nat} {C : Ct} {cl : Cl} {pos p apos p3 : Pos} {a b : Expr}
/-- plain work at any slots -/
theorem kS_any (kx : KX X U n C) {st : Stmt} {m : MS} (hc : stepS (cE 40) (cSs 40) C st = some m) : PS X st (fun E σ H => ∃ e e1, evS (tab U.Pg n) m e [] = .ok (.nx e1, []) ∧ e1.all okS = true ∧ (∀ (i : Nat) (a : Addr) (fs : List (Str × D)), e1[i]? = some (.ins a fs) → e[i]? = some (.ins a fs)) ∧ tKS U C.O cl true e e1 E σ H) :=
  ⟨fun pins s σ H D I ⟨e, e1, h1, h2, h3, h⟩ => (kS_plain kx hc h1 h2 h3).run pins s σ H D I h⟩
theorem k_any (kx : KX X U n C) {m : ME} {c : Bool} (hc : cE 40 C a = some (m, c)) : PE X a (fun σ H Q => ∃ e d, ev (tab U.Pg n) m e [] = .ok (d, []) ∧ tK U C.O cl true e e (Dat U d) σ H Q) :=
  ⟨fun pins s σ H Q I ⟨e, d, h1, h⟩ => (k_plain kx hc h1).run pins s σ H Q I h⟩
theorem J.setV {e : SEnv} {σ : Slots} {H : Hp} {i : Nat} {d : D} {v : V} (j : J U C.O cl e σ H) (hi : i ∉ C.O) (hv : Dat U d v H) : J U C.O cl (e.set i (.val d)) (σ.set i (some v)) H := by
  have ne_ : ∀ {k : Nat}, k ≠ i → (e.set i (.val d))[k]? = e[k]? := fun n => by rw [List.getElem?_set, if_neg (fun w => n w.symm)]
  have nes : ∀ {k : Nat}, k ≠ i → (σ.set i (some v))[k]? = σ[k]? := fun n => by rw [List.getElem?_set, if_neg (fun w => n w.symm)]
  refine ⟨by rw [List.length_set, List.length_set]; exact j.len, j.tabs, fun m s h => ?_, fun m d' h => ?_, fun m a gs h => ?_, j.bs, j.bE, j.fr⟩
  · rcases List.mem_or_eq_of_mem_set (List.mem_of_getElem? h) with z | z
    · obtain ⟨k, hk, q⟩ := List.mem_iff_getElem.mp z
      exact j.only k s (by rw [List.getElem?_eq_getElem hk, q])
    · exact .inr (.inl ⟨d, z⟩)
  · by_cases hm : m = i
    · rw [hm, List.getElem?_set, if_pos rfl] at h
      split at h
      · rename_i hl
        cases h
        exact ⟨v, by rw [hm, List.getElem?_set, if_pos rfl, if_pos (by rw [← j.len]; exact hl)], hv⟩
      · cases h
    · rw [ne_ hm] at h
      obtain ⟨w, e1, e2⟩ := j.val m d' h
      exact ⟨w, by rw [nes hm]; exact e1, e2⟩
  · by_cases hm : m = i
    · rw [hm, List.getElem?_set, if_pos rfl] at h
      split at h <;> cases h
    · rw [ne_ hm] at h
      obtain ⟨w1, w2, w3⟩ := j.ins m a gs h
      exact ⟨w1, by rw [nes hm]; exact w2, w3⟩
end
/-! ### a generator method -/
/-- what it hands out, by R -/
def spG (U : Wd) (Ca : Addr) (np : Nat) (R : List (Str × D) → List D → List D → Prop) : SpG := fun vs H cont _ => vs.length = np ∧ ∃ q us ds fs out, vs = .ref q :: us ∧ LamX.Tabs U.T H ∧ ObA U.K H Ca q fs ∧ DvAll U.K H none_ ds us ∧ R fs ds out ∧ ∀ ys H', Ext U.T none_ H H' → DvAll U.K H' none_ out ys → cont ys H'
section
variable {U : Wd} {n : Nat} {C : Ct} {Ca g : Addr} {x qual : Str} {params : Arguments} {body : List Stmt} {scope : Scope} {fd : FuncData} {ps : List Str} {k : Nat} {kws : List (Str × V)}
theorem gScope_of {N ps : List Str} {sc : Scope} (h : (decide (sc.kind = .function) && !sc.isCoroutine && sc.isGenerator && decide N.Nodup && decide (N.take ps.length = ps) && ps.all (fun x => decide (sc.names.lookup x = some .local) || decide (sc.names.lookup x = some .cell)) && sc.names.all fun y => !decide (y.2 = .free)) = true) : GScope N ps sc := by
  simp only [Bool.and_eq_true, Bool.or_eq_true, Bool.not_eq_true', decide_eq_true_eq, decide_eq_false_iff_not, List.all_eq_true] at h
  obtain ⟨⟨⟨⟨⟨⟨h1, h2⟩, h3⟩, h4⟩, h5⟩, h6⟩, h7⟩ := h
  exact ⟨h1, h2, h3, h4, h5, h6, h7⟩
theorem kx_gen (kn : U.knows n C.fns) (fc : U.facts C.gcs C.excs C.blts) (hnd : C.N.Nodup) (hsc : C.sc = scope) (hk : scope.kind = .function) (hlm : C.lams = []) {f : Addr} {cdv : Value} {A : Around} {outer : List Env} {s : Shared} {H : Hp} {E : XK} {pn : List (Addr × Obj)} (hr : Room (3 * n) (A.deeper (envOfC qual scope s.heap.objs.size f cdv))) :
    KX (gcxOf U.P U.w U.K U.mg U.base C.N qual scope f cdv A outer s H E pn) U n C := by
  refine ⟨fun H0 => ⟨fun _ _ => False, ⟨⟨rfl, hnd, hsc.symm, fun _ _ => rfl, rfl, rfl, rfl, ?_, ⟨_, takesN, fun _ _ _ z => z.elim⟩, fun x i np new h => ?_, fun x i np new h => ?_, fc.gc, fc.bl, fun x lb h => (by rw [hlm] at h; cases h)⟩, owns_gcx, hk, fun x i h => ?_, fun _ => rfl⟩⟩, rfl, rfl, rfl, rfl⟩
  · have := hr.un
    show (A.deeper (envOfC qual scope s.heap.objs.size f cdv)).units + 65 < cLine
    omega
  · obtain ⟨g, fd, ps, h1, h2, h3, h4⟩ := kn.p x i np new h
    exact ⟨3 * n, g, fd, ps, h1, hr, h2, h3, h4⟩
  · obtain ⟨g, fd, ps, h1, h2, h3, h4⟩ := kn.b x i np new h
    exact ⟨3 * n, g, fd, ps, h1, hr, h2, h3, h4⟩
  · obtain ⟨Ca, bmB, Bn, nI, iI, h1, h2, h3, h4, h5, h6⟩ := fc.ex x i h
    exact ⟨Ca, bmB, Bn, nI, iI, h1, h2, h3, h4, raises_own h5.1 h5.2, h6⟩
/-- the rule: for a def by its body -/
theorem fnG {R : List (Str × D) → List D → List D → Prop} (kn : U.knows n C.fns) (fc : U.facts C.gcs C.excs C.blts) (S : GScope C.N ps scope) (hsc : C.sc = scope) (hlm : C.lams = []) (hk : 3 * n ≤ k) (hO : 0 ∈ C.O) (hint : ∀ L cd, interactive (envOfC qual scope L g cd) = false) (Fd : FunD U.K x qual params body scope [] kws g fd)
    (hb : ∀ (X : Cx), KX X U n C → PassesOwn (model X.prog X.w) X.A X.env X.xe → X.env.scope.isCoroutine = false → interactive X.env = false → ∀ q fs ds out, ds.length + 1 = ps.length → R fs ds out → ∃ t, GSs X body t ∧ ∀ D σ H, J U C.O (cl0 [(0, Ca)]) (eS q fs ds C.N.length) σ H → (∀ ys σ' H', Ext U.T none_ H H' → DvAll U.K H' none_ out ys → D.nx ys σ' H') → t D [] σ H) :
    GFn U.P U.w U.K U.mg U.base (k + 1) g fd ps (spG U Ca ps.length R) := by
  obtain ⟨oc, od, dV, kV, doc, pm, an, cdv, ct, osl, rfl, lk, hcd, _, _⟩ := Fd.ex
  refine gfn_of lk hcd S (fun vs H Q E h => h.1) fun A outer s H vs Q E pn hr ⟨hl, q, us, ds, fs, out, e, ht, ob, hv, hR, hq⟩ => ?_
  subst e
  obtain ⟨t, w, ht'⟩ := hb _ (kx_gen (qual := qual) (f := g) (cdv := cdv) (A := A) (outer := outer) (s := s) (H := H) (E := E) (pn := pn) kn fc S.nd hsc S.kind hlm (hr.mono hk)) owns_gcx S.co (hint _ _) q fs ds out (by rw [← hl, List.length_cons, hv.length]) hR
  exact ⟨t, w, ht' _ _ _ (j_start hO rfl cl0_ok (fun _ _ _ h => h) ht ob hv) fun ys σ' H' x' hys => hq ys H' x' hys⟩
end
/-! list(o.m()) -/
section
variable {X : Cx} {U : Wd} {n : Nat} {C : Ct} {cl : Cl} {e e1 : SEnv} {pos p apos p3 pos' : Pos} {a o : Expr} {p1 : Bool} {Ca g : Addr} {fs : List (Str × D)} {fd : FuncData} {ps : List Str} {k np : Nat} {R : List (Str × D) → List D → List D → Prop} {out : List D} {dvs : List V} {dvd : List D} {dsv : List Value}
theorem k_listG (kx : KX X U n C) {m z : Str} {pl : Sem Bool} (c : Cls X.K Ca) (hm : Meth X.K Ca m g) (F : GFn X.prog X.w X.K X.mg X.base k g fd ps (spG U Ca np R)) (hr : Room (k + 3) X.A) (hb : Binds X.K fd ps dsv) (hd : Vals dvs dsv) (hdd : ∀ H, DvAll U.K H none_ dvd dvs) (ho : PE X o (tK U C.O cl p1 e e1 (Lnd U Ca fs))) (hn : fs.lookup m = none) (hl : dvs.length + 1 = np) (hR : R fs dvd out)
    (hpx : Passes (L2.CX X.prog X.w) X E0) (hg : Gl X z) (hmg : X.mg z = none) (hv : bootBuiltins z = some (.type "list")) (hz : out.length ≤ sizeLine) (hnm : z ≠ "__name__" := by decide) (hdb : (z == ("__debug__" : Str)) = false := by decide)
    (ht : eval (.Call (.Attribute o m apos) [] [] pos') X.env = (do
      let ov ← eval o X.env
      standAt apos.atName
      let (f, first) ← holding [ov] (getMethod ov m pl)
      callWith pos' f first (backTo pos' (starEach [] X.env)) (backToKw pos' (keywordEach [] X.env)))) :
    PE X (.Call (.Name z p) [.Call (.Attribute o m apos) [] [] pos'] [] pos) (tK U C.O cl p1 e e1 (Dat U (.list out))) := by
  refine (pe_listG (pgen_meth0 ho c hm F (hr.mono (by omega)) hb hd (E := E0) ht) hpx (fun _ _ _ z => z.elim) hr hg hmg hv hnm hdb).imp fun σ H Q ⟨j, kk⟩ => ?_
  refine ⟨j, fun v H1 j1 k1 x1 ⟨q, ev, ob⟩ => ?_⟩
  subst ev
  obtain ⟨dx, gs, hq, hgs, _⟩ := id ob
  refine ⟨q, dx, gs, rfl, hq, hgs.none hn, ?_⟩
  show spG U Ca np R (V.ref q :: ([] ++ dvs)) H1 _ E0
  rw [List.nil_append]
  refine ⟨hl, q, dvs, dvd, fs, out, rfl, j1.tabs, ob, hdd H1, hR, fun ys H' x' hys w hw => ?_⟩
  have x2 : Ext U.T none_ H1 (upd H' w (.lst ys)) := x'.trans (.same (same_new hw))
  exact kk _ _ (j1.ext x2) (k1.trans x2.kp) (fun z => (x1 z).trans x2) (.newL (A := none_) dom_none hw (by rw [hys.length]; exact hz) hys)
/-- list(o.m(key = e)) -/
theorem k_listGK (kx : KX X U n C) {m z : Str} {pl : Sem Bool} {kws : List Keyword} {ks : List Str} {zd : List D} {gg : List Value → List Value → List Value} {gV : List V → List V → List V} (c : Cls X.K Ca) (hm : Meth X.K Ca m g) (F : GFn X.prog X.w X.K X.mg X.base k g fd ps (spG U Ca np R)) (hr : Room (k + 3) X.A) (hb : KBn X.K fd ps 1 ks gg gV) (hkw : PK X kws (tKA U C.O cl true e1 e1 zd)) (hgV : ∀ v zs, gV [v] zs = v :: zs) (ho : PE X o (tK U C.O cl p1 e e1 (Lnd U Ca fs))) (hn : fs.lookup m = none) (hl : zd.length + 1 = np) (hk : zd.length = ks.length) (hR : R fs zd out)
    (hpx : Passes (L2.CX X.prog X.w) X E0) (hg : Gl X z) (hmg : X.mg z = none) (hv : bootBuiltins z = some (.type "list")) (hz : out.length ≤ sizeLine) (hall : (backToKw pos' (keywordEach kws X.env)).all (·.1.isSome) = true) (hks : (backToKw pos' (keywordEach kws X.env)).filterMap (·.1) = ks)
    (hpl : ((backTo pos' (starEach [] X.env)).any (·.1) || (backToKw pos' (keywordEach kws X.env)).any (·.1.isNone)) = false)
    (ht : eval (.Call (.Attribute o m apos) [] kws pos') X.env = (do
      let ov ← eval o X.env
      standAt apos.atName
      let (f, first) ← holding [ov] (getMethod ov m pl)
      callWith pos' f first (backTo pos' (starEach [] X.env)) (backToKw pos' (keywordEach kws X.env)))) (he : starEach [.Call (.Attribute o m apos) [] kws pos'] X.env = (false, eval (.Call (.Attribute o m apos) [] kws pos') X.env) :: starEach [] X.env) (hnm : z ≠ "__name__" := by decide) (hdb : (z == ("__debug__" : Str)) = false := by decide) :
    PE X (.Call (.Name z p) [.Call (.Attribute o m apos) [] kws pos'] [] pos) (tK U C.O cl p1 e e1 (Dat U (.list out))) := by
  refine (pe_listG (pgen_methK0 ho c hm F (hr.mono (by omega)) hb hkw (E := E0) hall hks hpl ht) hpx (fun _ _ _ z => z.elim) hr hg hmg hv hnm hdb he).imp fun σ H Q ⟨j, kk⟩ => ?_
  refine ⟨j, fun v H1 j1 k1 x1 ⟨q, ev, ob⟩ => ?_⟩
  subst ev
  obtain ⟨dx, gs, hq, hgs, _⟩ := id ob
  refine ⟨q, dx, gs, rfl, hq, hgs.none hn, j1, fun zs H2 j2 k2 x2 hzs => ⟨by rw [hzs.length]; exact hk, ?_⟩⟩
  show spG U Ca np R (gV [V.ref q] zs) H2 _ E0
  rw [hgV]
  refine ⟨by rw [List.length_cons, hzs.length]; exact hl, q, zs, zd, fs, out, rfl, j2.tabs, ob.ext (x2 rfl), hzs, hR, fun ys H' x' hys w hw => ?_⟩
  have x3 : Ext U.T none_ H2 (upd H' w (.lst ys)) := x'.trans (.same (same_new hw))
  exact kk _ _ (j2.ext x3) ((k1.trans k2).trans x3.kp) (fun z => ((x1 z).trans (x2 rfl)).trans x3) (.newL (A := none_) dom_none hw (by rw [hys.length]; exact hz) hys)
/-- keywords -/
theorem kK_one {nm : Option Str} {kp : Pos} {d : D} (ha : PE X a (tK U C.O cl p1 e e1 (Dat U d))) : PK X [⟨nm, a, kp⟩] (tKA U C.O cl p1 e e1 [d]) :=
  ⟨fun p pins s σ H Q I ⟨j, k⟩ => (pk_cons ha pk_nil).run p pins s σ H Q I ⟨j, fun v H' j' k' x' hv => k [v] H' j' k' x' (.cons hv .nil)⟩⟩
end
end PD
set_option Elab.async false
set_option linter.all false
set_option maxRecDepth 100000
set_option maxHeartbeats 0
namespace K16
open PySem PySem.Spec PyProof.Rows L2 PD
theorem oks : rs.all DRow.ok = true := by decide +kernel
theorem lawOk : (scOk dr_law.C.N dr_law.ps (defScope dr_law.st) && (cSs 40 dr_law.C (defBody dr_law.st)).isSome) = true := by decide +kernel
theorem all_cons {P : DRow → Prop} {r : DRow} {l : List DRow} (h : P r) (t : ∀ r ∈ l, P r) : ∀ x ∈ r :: l, P x := fun x hx => by
  rcases List.mem_cons.mp hx with e | e
  · rw [e]; exact h
  · exact t x e
theorem all_nil {P : DRow → Prop} : ∀ x ∈ ([] : List DRow), P x := fun x hx => nomatch hx
theorem all_app {P : DRow → Prop} {l m : List DRow} (h : ∀ r ∈ l, P r) (t : ∀ r ∈ m, P r) : ∀ x ∈ l ++ m, P x := fun x hx => (List.mem_append.mp hx).elim (h x) (t x)
structure RowOk (r : DRow) : Prop where
  C : r.C.fns = fns ∧ r.C.gcs = gcs ∧ r.C.excs = excs ∧ r.C.blts = blts
  sc : r.C.sc = defScope r.st
  at_ : P0.fn r.id = some r.fn
  bind : BindE r.nm r.st r.ps
theorem rowsOk0 : ∀ r ∈ rs0, RowOk r :=
  all_cons ⟨⟨rfl, rfl, rfl, rfl⟩, rfl, (by kernel_rfl), fun _ _ _ _ _ _ us hl => match us, hl with | [_], _ => rfl⟩ <|
  all_cons ⟨⟨rfl, rfl, rfl, rfl⟩, rfl, (by kernel_rfl), fun _ _ _ _ _ _ us hl => match us, hl with | [_, _, _], _ => rfl⟩ <|
  all_cons ⟨⟨rfl, rfl, rfl, rfl⟩, rfl, (by kernel_rfl), fun _ _ _ _ _ _ us hl => match us, hl with | [_], _ => rfl⟩ <|
  all_cons ⟨⟨rfl, rfl, rfl, rfl⟩, rfl, (by kernel_rfl), fun _ _ _ _ _ _ us hl => match us, hl with | [_, _], _ => rfl⟩ <|
  all_cons ⟨⟨rfl, rfl, rfl, rfl⟩, rfl, (by kernel_rfl), fun _ _ _ _ _ _ us hl => match us, hl with | [_], _ => rfl⟩ <|
  all_cons ⟨⟨rfl, rfl, rfl, rfl⟩, rfl, (by kernel_rfl), fun _ _ _ _ _ _ us hl => match us, hl with | [_, _], _ => rfl⟩ <|
  all_cons ⟨⟨rfl, rfl, rfl, rfl⟩, rfl, (by kernel_rfl), fun _ _ _ _ _ _ us hl => match us, hl with | [_, _], _ => rfl⟩ <|
  all_cons ⟨⟨rfl, rfl, rfl, rfl⟩, rfl, (by kernel_rfl), fun _ _ _ _ _ _ us hl => match us, hl with | [_, _], _ => rfl⟩ <|
  all_cons ⟨⟨rfl, rfl, rfl, rfl⟩, rfl, (by kernel_rfl), fun _ _ _ _ _ _ us hl => match us, hl with | [_], _ => rfl⟩ <|
  all_cons ⟨⟨rfl, rfl, rfl, rfl⟩, rfl, (by kernel_rfl), fun _ _ _ _ _ _ us hl => match us, hl with | [_, _, _], _ => rfl⟩ <|
  all_cons ⟨⟨rfl, rfl, rfl, rfl⟩, rfl, (by kernel_rfl), fun _ _ _ _ _ _ us hl => match us, hl with | [_], _ => rfl⟩ <|
  all_cons ⟨⟨rfl, rfl, rfl, rfl⟩, rfl, (by kernel_rfl), fun _ _ _ _ _ _ us hl => match us, hl with | [_], _ => rfl⟩ <|
  all_cons ⟨⟨rfl, rfl, rfl, rfl⟩, rfl, (by kernel_rfl), fun _ _ _ _ _ _ us hl => match us, hl with | [_, _], _ => rfl⟩ <|
  all_cons ⟨⟨rfl, rfl, rfl, rfl⟩, rfl, (by kernel_rfl), fun _ _ _ _ _ _ us hl => match us, hl with | [_, _], _ => rfl⟩ <|
  all_cons ⟨⟨rfl, rfl, rfl, rfl⟩, rfl, (by kernel_rfl), fun _ _ _ _ _ _ us hl => match us, hl with | [_], _ => rfl⟩ <|
  all_cons ⟨⟨rfl, rfl, rfl, rfl⟩, rfl, (by kernel_rfl), fun _ _ _ _ _ _ us hl => match us, hl with | [_, _, _], _ => rfl⟩ <|
  all_cons ⟨⟨rfl, rfl, rfl, rfl⟩, rfl, (by kernel_rfl), fun _ _ _ _ _ _ us hl => match us, hl with | [_, _], _ => rfl⟩ <|
  all_cons ⟨⟨rfl, rfl, rfl, rfl⟩, rfl, (by kernel_rfl), fun _ _ _ _ _ _ us hl => match us, hl with | [_], _ => rfl⟩ <|
  all_cons ⟨⟨rfl, rfl, rfl, rfl⟩, rfl, (by kernel_rfl), fun _ _ _ _ _ _ us hl => match us, hl with | [_, _], _ => rfl⟩ <|
  all_cons ⟨⟨rfl, rfl, rfl, rfl⟩, rfl, (by kernel_rfl), fun _ _ _ _ _ _ us hl => match us, hl with | [_, _], _ => rfl⟩ <|
  all_cons ⟨⟨rfl, rfl, rfl, rfl⟩, rfl, (by kernel_rfl), fun _ _ _ _ _ _ us hl => match us, hl with | [_, _], _ => rfl⟩ <|
  all_cons ⟨⟨rfl, rfl, rfl, rfl⟩, rfl, (by kernel_rfl), fun _ _ _ _ _ _ us hl => match us, hl with | [_, _], _ => rfl⟩ <|
  all_cons ⟨⟨rfl, rfl, rfl, rfl⟩, rfl, (by kernel_rfl), fun _ _ _ _ _ _ us hl => match us, hl with | [_, _], _ => rfl⟩ <|
  all_cons ⟨⟨rfl, rfl, rfl, rfl⟩, rfl, (by kernel_rfl), fun _ _ _ _ _ _ us hl => match us, hl with | [_, _], _ => rfl⟩ <|
  all_cons ⟨⟨rfl, rfl, rfl, rfl⟩, rfl, (by kernel_rfl), fun _ _ _ _ _ _ us hl => match us, hl with | [_, _], _ => rfl⟩ <|
  all_nil
theorem rowsOk1 : ∀ r ∈ rs1, RowOk r :=
  all_cons ⟨⟨rfl, rfl, rfl, rfl⟩, rfl, (by kernel_rfl), fun _ _ _ _ _ _ us hl => match us, hl with | [_], _ => rfl⟩ <|
  all_cons ⟨⟨rfl, rfl, rfl, rfl⟩, rfl, (by kernel_rfl), fun _ _ _ _ _ _ us hl => match us, hl with | [_], _ => rfl⟩ <|
  all_cons ⟨⟨rfl, rfl, rfl, rfl⟩, rfl, (by kernel_rfl), fun _ _ _ _ _ _ us hl => match us, hl with | [_, _], _ => rfl⟩ <|
  all_cons ⟨⟨rfl, rfl, rfl, rfl⟩, rfl, (by kernel_rfl), fun _ _ _ _ _ _ us hl => match us, hl with | [_, _], _ => rfl⟩ <|
  all_cons ⟨⟨rfl, rfl, rfl, rfl⟩, rfl, (by kernel_rfl), fun _ _ _ _ _ _ us hl => match us, hl with | [_, _], _ => rfl⟩ <|
  all_cons ⟨⟨rfl, rfl, rfl, rfl⟩, rfl, (by kernel_rfl), fun _ _ _ _ _ _ us hl => match us, hl with | [_, _], _ => rfl⟩ <|
  all_cons ⟨⟨rfl, rfl, rfl, rfl⟩, rfl, (by kernel_rfl), fun _ _ _ _ _ _ us hl => match us, hl with | [_, _], _ => rfl⟩ <|
  all_cons ⟨⟨rfl, rfl, rfl, rfl⟩, rfl, (by kernel_rfl), fun _ _ _ _ _ _ us hl => match us, hl with | [_, _, _], _ => rfl⟩ <|
  all_cons ⟨⟨rfl, rfl, rfl, rfl⟩, rfl, (by kernel_rfl), fun _ _ _ _ _ _ us hl => match us, hl with | [_, _, _], _ => rfl⟩ <|
  all_cons ⟨⟨rfl, rfl, rfl, rfl⟩, rfl, (by kernel_rfl), fun _ _ _ _ _ _ us hl => match us, hl with | [_, _, _], _ => rfl⟩ <|
  all_cons ⟨⟨rfl, rfl, rfl, rfl⟩, rfl, (by kernel_rfl), fun _ _ _ _ _ _ us hl => match us, hl with | [_, _, _, _], _ => rfl⟩ <|
  all_cons ⟨⟨rfl, rfl, rfl, rfl⟩, rfl, (by kernel_rfl), fun _ _ _ _ _ _ us hl => match us, hl with | [_, _, _, _], _ => rfl⟩ <|
  all_cons ⟨⟨rfl, rfl, rfl, rfl⟩, rfl, (by kernel_rfl), fun _ _ _ _ _ _ us hl => match us, hl with | [_, _, _], _ => rfl⟩ <|
  all_cons ⟨⟨rfl, rfl, rfl, rfl⟩, rfl, (by kernel_rfl), fun _ _ _ _ _ _ us hl => match us, hl with | [_, _], _ => rfl⟩ <|
  all_cons ⟨⟨rfl, rfl, rfl, rfl⟩, rfl, (by kernel_rfl), fun _ _ _ _ _ _ us hl => match us, hl with | [_, _, _], _ => rfl⟩ <|
  all_cons ⟨⟨rfl, rfl, rfl, rfl⟩, rfl, (by kernel_rfl), fun _ _ _ _ _ _ us hl => match us, hl with | [_, _, _], _ => rfl⟩ <|
  all_cons ⟨⟨rfl, rfl, rfl, rfl⟩, rfl, (by kernel_rfl), fun _ _ _ _ _ _ us hl => match us, hl with | [_, _, _], _ => rfl⟩ <|
  all_cons ⟨⟨rfl, rfl, rfl, rfl⟩, rfl, (by kernel_rfl), fun _ _ _ _ _ _ us hl => match us, hl with | [_, _], _ => rfl⟩ <|
  all_cons ⟨⟨rfl, rfl, rfl, rfl⟩, rfl, (by kernel_rfl), fun _ _ _ _ _ _ us hl => match us, hl with | [_], _ => rfl⟩ <|
  all_cons ⟨⟨rfl, rfl, rfl, rfl⟩, rfl, (by kernel_rfl), fun _ _ _ _ _ _ us hl => match us, hl with | [_, _], _ => rfl⟩ <|
  all_cons ⟨⟨rfl, rfl, rfl, rfl⟩, rfl, (by kernel_rfl), fun _ _ _ _ _ _ us hl => match us, hl with | [_, _, _], _ => rfl⟩ <|
  all_cons ⟨⟨rfl, rfl, rfl, rfl⟩, rfl, (by kernel_rfl), fun _ _ _ _ _ _ us hl => match us, hl with | [_, _], _ => rfl⟩ <|
  all_cons ⟨⟨rfl, rfl, rfl, rfl⟩, rfl, (by kernel_rfl), fun _ _ _ _ _ _ us hl => match us, hl with | [_, _, _], _ => rfl⟩ <|
  all_cons ⟨⟨rfl, rfl, rfl, rfl⟩, rfl, (by kernel_rfl), fun _ _ _ _ _ _ us hl => match us, hl with | [_], _ => rfl⟩ <|
  all_cons ⟨⟨rfl, rfl, rfl, rfl⟩, rfl, (by kernel_rfl), fun _ _ _ _ _ _ us hl => match us, hl with | [_, _], _ => rfl⟩ <|
  all_nil
theorem rowsOk2 : ∀ r ∈ rs2, RowOk r :=
  all_cons ⟨⟨rfl, rfl, rfl, rfl⟩, rfl, (by kernel_rfl), fun _ _ _ _ _ _ us hl => match us, hl with | [_, _, _], _ => rfl⟩ <|
  all_cons ⟨⟨rfl, rfl, rfl, rfl⟩, rfl, (by kernel_rfl), fun _ _ _ _ _ _ us hl => match us, hl with | [_, _, _], _ => rfl⟩ <|
  all_cons ⟨⟨rfl, rfl, rfl, rfl⟩, rfl, (by kernel_rfl), fun _ _ _ _ _ _ us hl => match us, hl with | [_, _, _], _ => rfl⟩ <|
  all_cons ⟨⟨rfl, rfl, rfl, rfl⟩, rfl, (by kernel_rfl), fun _ _ _ _ _ _ us hl => match us, hl with | [_, _, _], _ => rfl⟩ <|
  all_cons ⟨⟨rfl, rfl, rfl, rfl⟩, rfl, (by kernel_rfl), fun _ _ _ _ _ _ us hl => match us, hl with | [_, _, _], _ => rfl⟩ <|
  all_cons ⟨⟨rfl, rfl, rfl, rfl⟩, rfl, (by kernel_rfl), fun _ _ _ _ _ _ us hl => match us, hl with | [_, _, _], _ => rfl⟩ <|
  all_cons ⟨⟨rfl, rfl, rfl, rfl⟩, rfl, (by kernel_rfl), fun _ _ _ _ _ _ us hl => match us, hl with | [_], _ => rfl⟩ <|
  all_cons ⟨⟨rfl, rfl, rfl, rfl⟩, rfl, (by kernel_rfl), fun _ _ _ _ _ _ us hl => match us, hl with | [_], _ => rfl⟩ <|
  all_cons ⟨⟨rfl, rfl, rfl, rfl⟩, rfl, (by kernel_rfl), fun _ _ _ _ _ _ us hl => match us, hl with | [_], _ => rfl⟩ <|
  all_cons ⟨⟨rfl, rfl, rfl, rfl⟩, rfl, (by kernel_rfl), fun _ _ _ _ _ _ us hl => match us, hl with | [_], _ => rfl⟩ <|
  all_cons ⟨⟨rfl, rfl, rfl, rfl⟩, rfl, (by kernel_rfl), fun _ _ _ _ _ _ us hl => match us, hl with | [_, _, _], _ => rfl⟩ <|
  all_cons ⟨⟨rfl, rfl, rfl, rfl⟩, rfl, (by kernel_rfl), fun _ _ _ _ _ _ us hl => match us, hl with | [_, _, _], _ => rfl⟩ <|
  all_cons ⟨⟨rfl, rfl, rfl, rfl⟩, rfl, (by kernel_rfl), fun _ _ _ _ _ _ us hl => match us, hl with | [_, _], _ => rfl⟩ <|
  all_cons ⟨⟨rfl, rfl, rfl, rfl⟩, rfl, (by kernel_rfl), fun _ _ _ _ _ _ us hl => match us, hl with | [_, _, _, _], _ => rfl⟩ <|
  all_cons ⟨⟨rfl, rfl, rfl, rfl⟩, rfl, (by kernel_rfl), fun _ _ _ _ _ _ us hl => match us, hl with | [_], _ => rfl⟩ <|
  all_cons ⟨⟨rfl, rfl, rfl, rfl⟩, rfl, (by kernel_rfl), fun _ _ _ _ _ _ us hl => match us, hl with | [_, _, _], _ => rfl⟩ <|
  all_cons ⟨⟨rfl, rfl, rfl, rfl⟩, rfl, (by kernel_rfl), fun _ _ _ _ _ _ us hl => match us, hl with | [_, _, _], _ => rfl⟩ <|
  all_cons ⟨⟨rfl, rfl, rfl, rfl⟩, rfl, (by kernel_rfl), fun _ _ _ _ _ _ us hl => match us, hl with | [_, _, _, _], _ => rfl⟩ <|
  all_cons ⟨⟨rfl, rfl, rfl, rfl⟩, rfl, (by kernel_rfl), fun _ _ _ _ _ _ us hl => match us, hl with | [_, _, _, _], _ => rfl⟩ <|
  all_cons ⟨⟨rfl, rfl, rfl, rfl⟩, rfl, (by kernel_rfl), fun _ _ _ _ _ _ us hl => match us, hl with | [_, _, _], _ => rfl⟩ <|
  all_cons ⟨⟨rfl, rfl, rfl, rfl⟩, rfl, (by kernel_rfl), fun _ _ _ _ _ _ us hl => match us, hl with | [_, _, _], _ => rfl⟩ <|
  all_cons ⟨⟨rfl, rfl, rfl, rfl⟩, rfl, (by kernel_rfl), fun _ _ _ _ _ _ us hl => match us, hl with | [_], _ => rfl⟩ <|
  all_cons ⟨⟨rfl, rfl, rfl, rfl⟩, rfl, (by kernel_rfl), fun _ _ _ _ _ _ us hl => match us, hl with | [_, _, _], _ => rfl⟩ <|
  all_cons ⟨⟨rfl, rfl, rfl, rfl⟩, rfl, (by kernel_rfl), fun _ _ _ _ _ _ us hl => match us, hl with | [_, _, _], _ => rfl⟩ <|
  all_cons ⟨⟨rfl, rfl, rfl, rfl⟩, rfl, (by kernel_rfl), fun _ _ _ _ _ _ us hl => match us, hl with | [_, _, _], _ => rfl⟩ <|
  all_nil
theorem rowsOk3 : ∀ r ∈ rs3, RowOk r :=
  all_cons ⟨⟨rfl, rfl, rfl, rfl⟩, rfl, (by kernel_rfl), fun _ _ _ _ _ _ us hl => match us, hl with | [_, _, _], _ => rfl⟩ <|
  all_cons ⟨⟨rfl, rfl, rfl, rfl⟩, rfl, (by kernel_rfl), fun _ _ _ _ _ _ us hl => match us, hl with | [_, _, _], _ => rfl⟩ <|
  all_cons ⟨⟨rfl, rfl, rfl, rfl⟩, rfl, (by kernel_rfl), fun _ _ _ _ _ _ us hl => match us, hl with | [_, _, _], _ => rfl⟩ <|
  all_cons ⟨⟨rfl, rfl, rfl, rfl⟩, rfl, (by kernel_rfl), fun _ _ _ _ _ _ us hl => match us, hl with | [_, _], _ => rfl⟩ <|
  all_cons ⟨⟨rfl, rfl, rfl, rfl⟩, rfl, (by kernel_rfl), fun _ _ _ _ _ _ us hl => match us, hl with | [_, _, _], _ => rfl⟩ <|
  all_cons ⟨⟨rfl, rfl, rfl, rfl⟩, rfl, (by kernel_rfl), fun _ _ _ _ _ _ us hl => match us, hl with | [_, _, _, _], _ => rfl⟩ <|
  all_cons ⟨⟨rfl, rfl, rfl, rfl⟩, rfl, (by kernel_rfl), fun _ _ _ _ _ _ us hl => match us, hl with | [_, _], _ => rfl⟩ <|
  all_cons ⟨⟨rfl, rfl, rfl, rfl⟩, rfl, (by kernel_rfl), fun _ _ _ _ _ _ us hl => match us, hl with | [_, _, _], _ => rfl⟩ <|
  all_cons ⟨⟨rfl, rfl, rfl, rfl⟩, rfl, (by kernel_rfl), fun _ _ _ _ _ _ us hl => match us, hl with | [_, _, _, _], _ => rfl⟩ <|
  all_cons ⟨⟨rfl, rfl, rfl, rfl⟩, rfl, (by kernel_rfl), fun _ _ _ _ _ _ us hl => match us, hl with | [_, _, _], _ => rfl⟩ <|
  all_cons ⟨⟨rfl, rfl, rfl, rfl⟩, rfl, (by kernel_rfl), fun _ _ _ _ _ _ us hl => match us, hl with | [_, _, _, _], _ => rfl⟩ <|
  all_cons ⟨⟨rfl, rfl, rfl, rfl⟩, rfl, (by kernel_rfl), fun _ _ _ _ _ _ us hl => match us, hl with | [_, _, _], _ => rfl⟩ <|
  all_cons ⟨⟨rfl, rfl, rfl, rfl⟩, rfl, (by kernel_rfl), fun _ _ _ _ _ _ us hl => match us, hl with | [_, _, _], _ => rfl⟩ <|
  all_cons ⟨⟨rfl, rfl, rfl, rfl⟩, rfl, (by kernel_rfl), fun _ _ _ _ _ _ us hl => match us, hl with | [_], _ => rfl⟩ <|
  all_cons ⟨⟨rfl, rfl, rfl, rfl⟩, rfl, (by kernel_rfl), fun _ _ _ _ _ _ us hl => match us, hl with | [_], _ => rfl⟩ <|
  all_cons ⟨⟨rfl, rfl, rfl, rfl⟩, rfl, (by kernel_rfl), fun _ _ _ _ _ _ us hl => match us, hl with | [_], _ => rfl⟩ <|
  all_cons ⟨⟨rfl, rfl, rfl, rfl⟩, rfl, (by kernel_rfl), fun _ _ _ _ _ _ us hl => match us, hl with | [_], _ => rfl⟩ <|
  all_cons ⟨⟨rfl, rfl, rfl, rfl⟩, rfl, (by kernel_rfl), fun _ _ _ _ _ _ us hl => match us, hl with | [_, _], _ => rfl⟩ <|
  all_cons ⟨⟨rfl, rfl, rfl, rfl⟩, rfl, (by kernel_rfl), fun _ _ _ _ _ _ us hl => match us, hl with | [_, _], _ => rfl⟩ <|
  all_cons ⟨⟨rfl, rfl, rfl, rfl⟩, rfl, (by kernel_rfl), fun _ _ _ _ _ _ us hl => match us, hl with | [_], _ => rfl⟩ <|
  all_cons ⟨⟨rfl, rfl, rfl, rfl⟩, rfl, (by kernel_rfl), fun _ _ _ _ _ _ us hl => match us, hl with | [_, _, _, _], _ => rfl⟩ <|
  all_cons ⟨⟨rfl, rfl, rfl, rfl⟩, rfl, (by kernel_rfl), fun _ _ _ _ _ _ us hl => match us, hl with | [_, _, _, _, _], _ => rfl⟩ <|
  all_cons ⟨⟨rfl, rfl, rfl, rfl⟩, rfl, (by kernel_rfl), fun _ _ _ _ _ _ us hl => match us, hl with | [_], _ => rfl⟩ <|
  all_cons ⟨⟨rfl, rfl, rfl, rfl⟩, rfl, (by kernel_rfl), fun _ _ _ _ _ _ us hl => match us, hl with | [_], _ => rfl⟩ <|
  all_nil
theorem rowsOk : ∀ r ∈ rs, RowOk r := all_app (all_app (all_app (rowsOk0) rowsOk1) rowsOk2) rowsOk3
theorem fns_eq : fns = rs.map DRow.ent := by rfl
theorem ens_at : ∀ p ∈ excs, (ens0[p.2]?).map (·.1) = some p.1 := by decide +kernel
/-- where the text runs, by a program -/
def U (Q : Prog) (w : World) (K : PySem.W.Frag) (mg : Str → Option Value) (base : Heap) : Wd := ⟨(PySem.Challenge.rw_anyrain_k16_worked_examples).prog, w, K, mg, base, [], clsOf K ens0, Q⟩
/-- a program as P0, some defs by hand -/
structure Like (Q : Prog) : Prop where
  gc : Q.gc = P0.gc
  fn : Q.fn = P0.fn
  nat : ∀ r ∈ rs, Q.nat r.id = none
section
variable {w : World} {K : PySem.W.Frag} {h : Heap} {mg : Str → Option Value} {base : Heap} {Q : Prog}
theorem fa_row {r : DRow} (hr : r ∈ rs) : He.Fa.glo r.x ∈ fa := by
  rw [fa_eq]
  exact List.mem_append_left _ (List.mem_append_left _ (List.mem_append_left _ (List.mem_append_left _ (List.mem_map.mpr ⟨r, hr, rfl⟩))))
theorem fa_mid {f : He.Fa} (hf : f ∈ ([.glo "_law_rest_right", .glo "_law_rain_right", .glo "law", .glo "Land", .glo "Rain", .glo "NOTHING", .glo "HIGH", .int "MOST_STEPS" 6] : List He.Fa)) : f ∈ fa := by
  rw [fa_eq]
  exact List.mem_append_left _ (List.mem_append_left _ (List.mem_append_left _ (List.mem_append_right _ hf)))
theorem fa_glo {p : Str × Nat} (hp : p ∈ excs) : He.Fa.glo p.1 ∈ fa := by
  rw [fa_eq]
  exact List.mem_append_left _ (List.mem_append_left _ (List.mem_append_right _ (List.mem_map.mpr ⟨p, hp, rfl⟩)))
theorem fa_exc {p : Str × Nat} (hp : p ∈ excs) : He.Fa.exc p.1 ∈ fa := by
  rw [fa_eq]
  exact List.mem_append_left _ (List.mem_append_right _ (List.mem_map.mpr ⟨p, hp, rfl⟩))
theorem fa_blt {x : Str} (hx : x ∈ blts) : He.Fa.free x ∈ fa := by
  rw [fa_eq]
  exact List.mem_append_right _ (List.mem_map.mpr ⟨x, hx, rfl⟩)
theorem fn_row {r : DRow} (hr : r ∈ rs) : dA r ∈ fn := by
  rw [fn_eq]
  exact List.mem_append_left _ (List.mem_map.mpr ⟨r, hr, rfl⟩)
theorem fn_mid {d : He5.DefA} (hd : d ∈ [dA dr__law_rest_right, dA dr__law_rain_right, dA dr_law, m_init_Rain, m_moved_Rain, m_fall_Rain, m_shut_Rain, m_set_gate_Rain, m_fallen_Rain, m_surfaces_Rain, m_gates_Rain, m_undo_Rain, m_lines_Rain, m_getitem_Rain, m_contains_Rain, m_len_Rain, m_bool_Rain, m_init_Land, m_valley_Land, m_source_Land, m_add_Land, m_sub_Land, m_mul_Land, m_invert_Land, m_call_Land, m_getitem_Land, m_len_Land, m_contains_Land, m_bool_Land]) : d ∈ fn := by
  rw [fn_eq]
  exact List.mem_append_right _ hd
theorem blt_none (X : K.In h) (G : h.Ns mainGlobals mg) (c : SaysY fa fn ex K) {x : Str} (hx : x ∈ blts) : mg x = none := He.free_ok X G (c.fact (fa_blt hx))
theorem tupB_dv {x : Str} {a b : Int} (hb : He.tupB K x [.int a, .int b] = true) (hm : mg x = some (.ref (He.ga K x))) : ∃ v u, mg x = some u ∧ RelV v u ∧ ∀ H A, Dv K H A (.tuple [.int a, .int b]) v :=
  ⟨.ref (He.ga K x), _, hm, rfl, fun H A => .mkT (He.tupB_ok hb H) (by show 2 ≤ sizeLine; decide) (.cons (.ofI a) (.cons (.ofI b) .nil))⟩
theorem exA_ok (c : SaysY fa fn ex K) : ∀ b ∈ exA K, b = true := by
  have h := c.more
  unfold ex at h
  simp only [Bool.and_eq_true] at h
  exact List.all_eq_true.mp h.1.1
theorem exL_ok (c : SaysY fa fn ex K) : ∀ b ∈ exL K, b = true := by
  have h := c.more
  unfold ex at h
  simp only [Bool.and_eq_true] at h
  exact List.all_eq_true.mp h.1.2
theorem exR_ok (c : SaysY fa fn ex K) : ∀ b ∈ exR K, b = true := by
  have h := c.more
  unfold ex at h
  simp only [Bool.and_eq_true] at h
  exact List.all_eq_true.mp h.2
theorem glo_mid (X : K.In h) (G : h.Ns mainGlobals mg) (c : SaysY fa fn ex K) {x : Str} (hf : He.Fa.glo x ∈ ([.glo "_law_rest_right", .glo "_law_rain_right", .glo "law", .glo "Land", .glo "Rain", .glo "NOTHING", .glo "HIGH", .int "MOST_STEPS" 6] : List He.Fa)) : mg x = some (.ref (He.ga K x)) := He.glo_ok X G (c.fact (fa_mid hf))
theorem fcts (L : Like Q) (X : K.In h) (G : h.Ns mainGlobals mg) (c : SaysY fa fn ex K) : (U Q w K mg base).facts gcs excs blts := by
  refine facts_of (fun p hp => ?_) (fun x hx => blt_none X G c hx) fun p hp => ⟨c.fact (fa_exc hp), He.glo_ok X G (c.fact (fa_glo hp)), ?_⟩
  · have hgc : ∀ n, (U Q w K mg base).Pg.gc n = P0.gc n := fun n => congrFun L.gc n
    rw [hgc]
    rcases List.mem_cons.mp hp with e | hp
    · subst e
      obtain ⟨t, ht⟩ := He.int_ok (x := "MOST_STEPS") (i := 6) X G (c.fact (fa_mid (by simp)))
      exact ⟨.int 6, _, ht, ⟨t, rfl⟩, fun H A => rfl⟩
    · rcases List.mem_cons.mp hp with e | hp
      · subst e
        exact tupB_dv (K := K) (x := "NOTHING") (exA_ok c _ (.head _)) (glo_mid X G c (by simp))
      · have e := List.mem_singleton.mp hp
        subst e
        exact tupB_dv (K := K) (x := "HIGH") (exA_ok c _ (.tail _ (.head _))) (glo_mid X G c (by simp))
  · show clsOf K ens0 p.2 = _
    unfold clsOf
    rw [ens_at p hp]; rfl
theorem at_all (L : Like Q) (X : K.In h) (G : h.Ns mainGlobals mg) (c : SaysY fa fn ex K) : ∀ r ∈ rs, r.At (U Q w K mg base) := fun r hr => by
  have o := rowsOk r hr
  obtain ⟨fd, F⟩ := c.def_ (fn_row hr)
  have F : FunD K r.nm r.nm (defArgs r.st) (defBody r.st) (defScope r.st) [] [] (He.ga K r.x) fd := F
  refine ⟨⟨_, fd, F, He.glo_ok X G (c.fact (fa_row hr)), FunD.bindsN F o.bind⟩, List.all_eq_true.mp oks r hr, o.sc, L.nat r hr, ?_⟩
  show Q.fn r.id = _
  rw [L.fn]
  exact o.at_
theorem knows (L : Like Q) (X : K.In h) (G : h.Ns mainGlobals mg) (c : SaysY fa fn ex K) : ∀ n, (U Q w K mg base).knows n fns := knows_all fns_eq (fun r hr => (rowsOk r hr).C) (fcts L X G c) (at_all L X G c)
/-- what a method's body may lean on -/
theorem defH (L : Like Q) (X : K.In h) (G : h.Ns mainGlobals mg) (c : SaysY fa fn ex K) {n k : Nat} {C : Ct} {ps : List Str} {sc : Scope} (h1 : C.fns = fns) (h2 : C.gcs = gcs) (h3 : C.excs = excs) (h4 : C.blts = blts) (hs : scOk C.N ps sc = true) (hsc : C.sc = sc) (hl : C.lams = []) (hk : 3 * n ≤ k) : DefH (U Q w K mg base) n k C ps sc :=
  ⟨by rw [h1]; exact knows L X G c n, by rw [h2, h3, h4]; exact fcts L X G c, scOk_ok hs, hsc, hl, hk⟩
theorem meth (c : SaysY fa fn ex K) {d : He5.DefA} (hd : d ∈ [dA dr__law_rest_right, dA dr__law_rain_right, dA dr_law, m_init_Rain, m_moved_Rain, m_fall_Rain, m_shut_Rain, m_set_gate_Rain, m_fallen_Rain, m_surfaces_Rain, m_gates_Rain, m_undo_Rain, m_lines_Rain, m_getitem_Rain, m_contains_Rain, m_len_Rain, m_bool_Rain, m_init_Land, m_valley_Land, m_source_Land, m_add_Land, m_sub_Land, m_mul_Land, m_invert_Land, m_call_Land, m_getitem_Land, m_len_Land, m_contains_Land, m_bool_Land]) : ∃ fd, FunD K d.name d.qual d.params d.body d.scope (d.dvs K) (d.kws K) (d.at_ K) fd := c.def_ (fn_mid hd)
end
end K16
set_option linter.all false
set_option maxRecDepth 100000
set_option maxHeartbeats 1000000
/-! Reader and evaluator in one equation; a class called by a local name. -/
namespace PD
open PySem PySem.Spec PyProof.Rows L2
def evX (Γ : Tab) (C : Ct) (a : Expr) (e : SEnv) : M D := match cE 40 C a with
  | some (m, _) => ev Γ m e []
  | none => .stuck
def evXT (Γ : Tab) (C : Ct) (a : Expr) (e : SEnv) : M D := match cE 40 C a with
  | some (m, true) => ev Γ m e []
  | _ => .stuck
def evXA (Γ : Tab) (C : Ct) (es : List Expr) (e : SEnv) : M (List D) := match cEs (cE 40) C es with
  | some ms => evs Γ ms e []
  | none => .stuck
def evXS (Γ : Tab) (C : Ct) (st : Stmt) (e : SEnv) : M Fl := match stepS (cE 40) (cSs 40) C st with
  | some m => evS Γ m e []
  | none => .stuck
def evXB (Γ : Tab) (C : Ct) (b : List Stmt) (e : SEnv) : M Fl := match cSs 40 C b with
  | some m => evSs Γ m e []
  | none => .stuck
/-- no instance but in the first slot -/
def insLe : SEnv → SEnv → Prop
  | .ins a fs :: r', .ins b gs :: r => a = b ∧ fs = gs ∧ r'.all noIn = true
  | e', _ => e'.all noIn = true
theorem noIn_no {s : Sl} (h : noIn s = true) {a : Addr} {fs : List (Str × D)} : s ≠ .ins a fs := by
  cases s <;> first | (intro z; cases z; done) | cases h
theorem noIn_at {e : SEnv} (h : e.all noIn = true) {i : Nat} {a : Addr} {fs : List (Str × D)} (q : e[i]? = some (.ins a fs)) : False := noIn_no (List.all_eq_true.mp h _ (List.mem_of_getElem? q)) rfl
theorem insLe_old {e' e : SEnv} (h : insLe e' e) : ∀ (i : Nat) (a : Addr) (fs : List (Str × D)), e'[i]? = some (.ins a fs) → e[i]? = some (.ins a fs) := by
  intro i a fs q
  unfold insLe at h
  split at h
  · obtain ⟨h1, h2, h3⟩ := h
    subst h1 h2
    cases i with
    | zero => exact q
    | succ i => exact (noIn_at h3 (by simpa using q)).elim
  · exact (noIn_at h q).elim
theorem insLe_ins {a : Addr} {fs : List (Str × D)} {r r' : SEnv} (h : r'.all noIn = true) : insLe (.ins a fs :: r') (.ins a fs :: r) := ⟨rfl, rfl, h⟩
section
variable {X : Cx} {U : Wd} {n : Nat} {C : Ct} {cl : Cl} {e e1 e2 e3 : SEnv} {pos p apos p3 : Pos} {a b : Expr} {p1 p2 : Bool} {x y d : D} {Ca Cb g : Addr} {fs fs' : List (Str × D)}
theorem x_e (kx : KX X U n C) (h : evX (tab U.Pg n) C a e = .ok (d, [])) : PE X a (tK U C.O cl true e e (Dat U d)) := by
  unfold evX at h
  split at h
  · rename_i m c hc; exact k_plain kx hc h
  · cases h
theorem x_t (kx : KX X U n C) {c : Bool} (h : evXT (tab U.Pg n) C a e = .ok (.bool c, [])) : PT X a (tKT U C.O cl true e e c) := by
  unfold evXT at h
  split at h
  · rename_i m hc; exact kT_plain (c := c) kx hc h
  · cases h
theorem x_a (kx : KX X U n C) {es : List Expr} {ds : List D} (h : evXA (tab U.Pg n) C es e = .ok (ds, [])) : PA X es (tKA U C.O cl true e e ds) := by
  unfold evXA at h
  split at h
  · rename_i ms hc; exact kA_plain kx hc h
  · cases h
theorem x_s (kx : KX X U n C) {st : Stmt} (h : evXS (tab U.Pg n) C st e = .ok (.nx e1, [])) (ok : e1.all okS = true) (old : insLe e1 e) : PS X st (tKS U C.O cl true e e1) := by
  unfold evXS at h
  split at h
  · rename_i m hc; exact kS_plain kx hc h ok (insLe_old old)
  · cases h
theorem x_b (kx : KX X U n C) {b : List Stmt} {B : Bg} (h : evXB (tab U.Pg n) C b e = .ok (.rt d, B)) : PSs X b (tKB U C.O cl true e e (Dat U d)) := by
  unfold evXB at h
  split at h
  · rename_i m hc; exact kB_plain kx hc h
  · cases h
theorem oneIns0 {q : Addr} {r : SEnv} (h : r.all noIn = true) : oneIns (.ins q fs :: r) 0 := fun k a gs hk => by
  cases k with
  | zero => rfl
  | succ k => exact (noIn_at h (by simpa using hk)).elim
end
section
variable {X : Cx} {U : Wd} {n : Nat} {C : Ct} {cl : Cl} {e e1 e2 : SEnv} {pos : Pos} {a b : Expr} {p1 p2 : Bool} {y : D} {Ca g : Addr} {fs : List (Str × D)} {fd : FuncData} {ps : List Str} {k : Nat} {run : Addr → List (Str × D) → List D → D → Prop}
theorem KX.fr (kx : KX X U n C) {sp : Sp} (F : FnOk U.P U.w U.K U.mg U.base (L2N.CX U.P U.w) k g fd ps sp) (hb : Binds U.K fd ps []) : FnR X.prog X.w X.K X.mg X.base (L2N.CX X.prog X.w) k g sp := by
  have hb' : Binds X.K fd ps [] := by rw [kx.K]; exact hb
  intro A outer s H us vs Q E hr e0 r h
  have hl := (kx.fo F).len _ _ _ _ h
  refine (kx.fo F).run A outer s H ⟨us, []⟩ us vs Q E hr e0 ?_ r h
  have := hb' s us (e0.mod.kin.keeps fun b o e => (e0.bs b o e).1) (by rw [List.append_nil, ← r.length]; exact hl)
  rwa [List.append_nil] at this
theorem kT_inO (kx : KX X U n C) {c : Bool} (m : Own.M X.K Ca "__contains__" g) (F : FO X k g fd ps (spO U Ca 2 run)) (hr : Room k X.A) (hb : Binds X.K fd ps []) (hi : PE X b (tK U C.O cl p1 e e1 (Dat U y))) (ha : PE X a (tK U C.O cl p2 e1 e2 (Lnd U Ca fs))) (hd : ∀ q, run q fs [y] (.bool c)) (hm : behindInMarks .In a = false) :
    PT X (.Compare b [.In] [a] pos) (tKT U C.O cl (p1 && p2) e e2 c) := by
  refine (pt_cmpR (Own.op_inO m F hr hb (E := E0) pas) hi ha hm).imp fun σ H Q ⟨j, kk⟩ => ?_
  refine ⟨j, fun w H1 j1 k1 x1 hw => ⟨j1, fun v H2 j2 k2 x2 ⟨q, e, ob⟩ => ?_⟩⟩
  obtain ⟨dx, gs, hq⟩ := ob.at
  exact ⟨q, dx, gs, e, hq, rfl, q, [w], [y], fs, .bool c, by rw [e], j2.tabs, ob, dv1 (hw.kp k2), hd q, fun u H' x' hu => ⟨c, Dv.b hu, c, rfl, kk H' (j2.ext x') ((k1.trans k2).trans x'.kp) (fun z => (andE Ext.trans x1 x2 z).trans x')⟩⟩
theorem kT_notInO (kx : KX X U n C) {c : Bool} (m : Own.M X.K Ca "__contains__" g) (F : FO X k g fd ps (spO U Ca 2 run)) (hr : Room k X.A) (hb : Binds X.K fd ps []) (hi : PE X b (tK U C.O cl p1 e e1 (Dat U y))) (ha : PE X a (tK U C.O cl p2 e1 e2 (Lnd U Ca fs))) (hd : ∀ q, run q fs [y] (.bool c)) (hm : behindInMarks .NotIn a = false) :
    PT X (.Compare b [.NotIn] [a] pos) (tKT U C.O cl (p1 && p2) e e2 (!c)) := by
  refine (pt_cmpR (Own.op_notInO m F hr hb (E := E0) pas) hi ha hm).imp fun σ H Q ⟨j, kk⟩ => ?_
  refine ⟨j, fun w H1 j1 k1 x1 hw => ⟨j1, fun v H2 j2 k2 x2 ⟨q, e, ob⟩ => ?_⟩⟩
  obtain ⟨dx, gs, hq⟩ := ob.at
  exact ⟨q, dx, gs, e, hq, rfl, q, [w], [y], fs, .bool c, by rw [e], j2.tabs, ob, dv1 (hw.kp k2), hd q, fun u H' x' hu => ⟨c, Dv.b hu, !c, rfl, kk H' (j2.ext x') ((k1.trans k2).trans x'.kp) (fun z => (andE Ext.trans x1 x2 z).trans x')⟩⟩
end
section
variable {X : Cx} {U : Wd} {n : Nat} {C : Ct} (kx : KX X U n C)
include kx
theorem KX.mk' {Ca f : Addr} (h : Mk U.K Ca f) : Mk X.K Ca f := by rw [kx.K]; exact h
theorem KX.bd {fd : FuncData} {ps : List Str} {ds : List Value} (h : Binds U.K fd ps ds) : Binds X.K fd ps ds := by rw [kx.K]; exact h
theorem KX.cls {Ca : Addr} (h : Cls U.K Ca) : Cls X.K Ca := by rw [kx.K]; exact h
theorem KX.prop {Ca p g : Addr} {f : Str} (h : PropOf U.K Ca f p g) : PropOf X.K Ca f p g := by rw [kx.K]; exact h
theorem KX.own {Ca g : Addr} {m : Str} (h : Own.M U.K Ca m g) : Own.M X.K Ca m g := by rw [kx.K]; exact h
theorem KX.co {Ca g : Addr} (h : Own.M U.K Ca "__call__" g) : StX.CallO X.K Ca g := by rw [kx.K]; exact ⟨h.at_, h.fn, h.fi⟩
theorem KX.opm {Ca g : Addr} {op : Operator} {T : String} (h : Own.OpM U.K Ca op g T) : Own.OpM X.K Ca op g T := by rw [kx.K]; exact h
theorem KX.mth {Ca g : Addr} {m : Str} (h : Meth U.K Ca m g) : Meth X.K Ca m g := by rw [kx.K]; exact h
theorem KX.crd {Ca : Addr} {mc : Value} (h : ClX.CRead U.K Ca mc) : ClX.CRead X.K Ca mc := by rw [kx.K]; exact h
theorem KX.cmt {Ca p g : Addr} {mc : Value} {m : Str} (h : ClX.CMet U.K Ca mc m p g) : ClX.CMet X.K Ca mc m p g := by rw [kx.K]; exact h
theorem KX.na {Ca : Addr} {f : Str} (h : NoAttr U.K Ca f) : NoAttr X.K Ca f := by rw [kx.K]; exact h
end
/-! ### methods by tables -/
abbrev TabO := List (List (Str × D) × List D × D)
abbrev TabN := List (List (Str × D) × List D × List (Str × D))
abbrev TabW := List (List (Str × D) × List D × List (Str × D) × D)
section
variable {U : Wd} {n k : Nat} {C : Ct} {Ca Cb g : Addr} {x qual : Str} {params : Arguments} {body : List Stmt} {scope : Scope} {fd : FuncData} {ps : List Str}
theorem fnT {T : TabO} (h : DefH U n k C ps scope) (Fd : FunD U.K x qual params body scope [] [] g fd) (hO : 0 ∈ C.O) (hT : ∀ q, ∀ t ∈ T, evXB (tab U.Pg n) C body (eS q t.1 t.2.1 C.N.length) = .ok (.rt t.2.2, [])) :
    FnOk U.P U.w U.K U.mg U.base (L2N.CX U.P U.w) (k + 1) g fd ps (spO U Ca ps.length fun _ fs ds d => (fs, ds, d) ∈ T) :=
  fnO h Fd hO fun X kx hr q fs ds d hl ht => ⟨_, x_b kx (hT q _ ht)⟩
end
/-! ### a class called by a local name -/
section
variable {X : Cx} {CX : CXT} {k i : Nat} {f C : Addr} {fd : FuncData} {ps : List Str} {sp : Sp} {dvs : List V} {ds : List Value} {E : XK} {x : Str} {p pos : Pos} {e : Expr} {es : List Expr} {t : TA}
theorem pe_makeL (M : Mk X.K C f) (F : FnOk X.prog X.w X.K X.mg X.base CX k f fd ps sp) (hr : Room (k + 1) X.A) (hN : X.N[i]? = some x) (hv : Vis X.env.scope x) (hb : Binds X.K fd ps ds) (hd : Vals dvs ds) (hx : Passes CX X E) (ha : PA X (e :: es) t)
    (hdb : (x == ("__debug__" : Str)) = false := by decide) (hcd : (x == ("__classdict__" : Str)) = false := by decide)
    (he : starEach (e :: es) X.env = (false, eval e X.env) :: starEach es X.env := by rfl) (hpl : (backTo pos (starEach es X.env)).any (·.1) = false := by rfl) : PE X (.Call (.Name x p) (e :: es) [] pos) (fun σ H Q => σ[i]? = some (some (.ref C)) ∧ tMake C sp dvs E t σ H Q) := by
  refine ⟨fun pins s σ H Q I h => ?_⟩
  obtain ⟨hs, ht⟩ := h
  refine wpAny_Call_Name_kw (thn ((pe_var (pos := p) hN hv hdb hcd).run pins s σ H (fun v H1 => v = .ref C ∧ H1 = H) I ⟨.ref C, hs, rfl, rfl⟩) fun u s1 ⟨v, H1, I1, r1, q1⟩ => ?_)
  obtain ⟨rfl, rfl⟩ := q1
  cases r1
  refine PySem.W.callWith_K (h₀ := X.base) I.ok.mod.kin M.kp (thn (ha.run pos pins s1 σ _ _ I1 ht) fun us s2 ⟨vs, H2, I2, r, q⟩ => ⟨I2.kIn, ?_⟩) he hpl
  exact run_make M F hr hb hd hx I2 r q
end
/-- a classmethod: a test that is not met, then cls(..) -/
theorem fnV {U : Wd} {n k k0 : Nat} {C : Ct} {Ca g f : Addr} {x qual : Str} {params : Arguments} {scope : Scope} {fd fd0 : FuncData} {ps ps0 : List Str} {c e : Expr} {es : List Expr} {st : List Stmt} {p1 p2 p3 pos : Pos} {z : Str} {np : Nat} {run : List D → List (Str × D) → Prop} {R : List D → List (Str × D) → Prop} (h : DefH U n k C ps scope)
    (Fd : FunD U.K x qual params [.If c st [] p1, .Return (some (.Call (.Name z p2) (e :: es) [] pos)) p3] scope [] [] g fd) (M : Mk U.K Ca f) (F : FnOk U.P U.w U.K U.mg U.base (L2N.CX U.P U.w) k0 f fd0 ps0 (spI U Ca np run)) (hk0 : k0 + 1 ≤ k) (hb0 : Binds U.K fd0 ps0 []) (hz : slotOf C.N z = some 0) (hok : okName z = true) (hv : visB C.sc z = true)
    (hps : plainE e = true) (hpl : es.all plainE = true) (hR : ∀ ds fs', ds.length + 1 = ps.length → R ds fs' → ∃ as, evXT (tab U.Pg n) C c (.emp :: (ds.map .val ++ List.replicate (C.N.length - (ds.length + 1)) .emp)) = .ok (.bool false, []) ∧ evXA (tab U.Pg n) C (e :: es) (.emp :: (ds.map .val ++ List.replicate (C.N.length - (ds.length + 1)) .emp)) = .ok (as, []) ∧ as.length + 1 = np ∧ run as fs') :
    FnOk U.P U.w U.K U.mg U.base (L2N.CX U.P U.w) (k + 1) g fd ps (spV U Ca ps.length R) := by
  refine fn_gen h Fd (fun vs H Q E h => h.1) fun X kx hr vs H Q E ⟨hl, us, ds, fs', ev, ht, hv', hd, hq⟩ => ?_
  subst ev
  obtain ⟨as, h1, h2, h3, h4⟩ := hR ds fs' (by rw [← hl, List.length_cons, hv'.length]) hd
  obtain ⟨W, G⟩ := kx.gd (fun _ => none)
  obtain ⟨z1, z2, z3⟩ := okName_1 hok
  have tst := x_t (cl := cl0 []) kx h1
  have arg := x_a (cl := cl0 []) kx h2
  have mk := pe_makeL (p := p2) (pos := pos) (kx.K ▸ M) (kx.fo F) (hr.mono hk0) (G.slot hz) (G.vis hv) (kx.K ▸ hb0) .nil (E := E0) pas arg z1 z2 (star_plain hps) (star_any hpl)
  refine ⟨_, pss_cons (ps_if tst (pss_never (sts := st)) pss_nil) (pss_one (ps_ret mk)), ?_⟩
  have j0 : J U C.O (cl0 []) (.emp :: (ds.map .val ++ List.replicate (C.N.length - (ds.length + 1)) .emp)) (L2.start C.N (.ref Ca :: us)) H := j_startV cl0_ok ht hv'
  refine ⟨j0, fun H1 j1 k1 x1 => ite_ff ?_⟩
  refine ⟨start_slot rfl, j1, fun vs2 H2 j2 k2 x2 hvs q dx hq' hdx hne => ?_⟩
  have sm : Same H2 (upd (upd H2 dx (.own q)) q (.ins Ca dx [])) := fun b o h => by
    rw [upd_ne (ne_of_none h hq'), upd_ne (ne_of_none h hdx)]; exact h
  have x3 : Ext U.T none_ H2 (upd (upd H2 dx (.own q)) q (.ins Ca dx [])) := .same sm
  refine ⟨by rw [List.append_nil, List.length_cons, hvs.length]; exact h3, q, vs2, as, fs', dx, by rw [List.append_nil], x3.tabs j2.tabs, upd_same, hvs.same sm, h4, fun H' t' ko ob => ⟨rfl, ?_⟩⟩
  have x4 : Ext U.T none_ H2 H' := by
    have kp : ∀ b o, H2 b = some o → (∀ ps, o ≠ .tbl ps) → H' b = some o := fun b o h t => ko b o (sm b o h) (ne_of_none h hq') t
    exact ⟨fun b o h _ t => kp b o h t, fun b xs h => kp b _ h (fun _ z => by cases z), fun b o u h => kp b _ h (fun _ z => by cases z), fun _ => t'⟩
  exact hq q H' (((x1 rfl).trans (x2 rfl)).trans x4) ob
end PD
set_option Elab.async false
set_option linter.all false
set_option maxRecDepth 100000
set_option maxHeartbeats 0
namespace K16
open PySem PySem.Spec PyProof.Rows L2 PD
section
variable {w : World} {K : PySem.W.Frag} {h : Heap} {mg : Str → Option Value} {base : Heap} {Q : Prog}
abbrev CL (K : PySem.W.Frag) : Addr := He.ga K "Land"
abbrev CR (K : PySem.W.Frag) : Addr := He.ga K "Rain" 
theorem clsL (c : SaysY fa fn ex K) : Cls K (CL K) ∧ ∀ f ∈ (["kept"] : List Str), NoAttr K (CL K) f := clsB_ok (exA_ok c _ (.tail _ (.tail _ (.head _))))
theorem clsR (c : SaysY fa fn ex K) : Cls K (CR K) ∧ ∀ f ∈ (["place", "now", "past"] : List Str), NoAttr K (CR K) f := clsB_ok (exA_ok c _ (.tail _ (.tail _ (.tail _ (.head _)))))
theorem mkL (c : SaysY fa fn ex K) : Mk K (CL K) (He.ma K (CL K) "__init__") := mkB_ok (exA_ok c _ (.tail _ (.tail _ (.tail _ (.tail _ (.head _))))))
theorem mkR (c : SaysY fa fn ex K) : Mk K (CR K) (He.ma K (CR K) "__init__") := mkB_ok (exA_ok c _ (.tail _ (.tail _ (.tail _ (.tail _ (.tail _ (.head _)))))))
theorem F_init_Rain (c : SaysY fa fn ex K) : ∃ fd, FunD K "__init__" "Rain.__init__" (defArgs (cst 102 0)) (defBody (cst 102 0)) (defScope (cst 102 0)) [] [] (He.ma K (CR K) "__init__") fd ∧ Binds K fd ["self", "land"] [] := by
  obtain ⟨fd, F⟩ := meth c (d := m_init_Rain) (.tail _ (.tail _ (.tail _ (.head _))))
  exact ⟨fd, F, FunD.bindsN F fun kV doc pm an cdv ct us hl => match us, hl with | [_, _], _ => rfl⟩
theorem F_moved_Rain (c : SaysY fa fn ex K) : ∃ fd, FunD K "moved" "Rain.moved" (defArgs (cst 102 1)) (defBody (cst 102 1)) (defScope (cst 102 1)) [] [] (He.ma K (CR K) "moved") fd ∧ Binds K fd ["self", "state"] [] := by
  obtain ⟨fd, F⟩ := meth c (d := m_moved_Rain) (.tail _ (.tail _ (.tail _ (.tail _ (.head _)))))
  exact ⟨fd, F, FunD.bindsN F fun kV doc pm an cdv ct us hl => match us, hl with | [_, _], _ => rfl⟩
theorem M_moved_Rain (c : SaysY fa fn ex K) : Own.M K (CR K) "moved" (He.ma K (CR K) "moved") ∧ Meth K (CR K) "moved" (He.ma K (CR K) "moved") := methB_ok (exR_ok c _ (.head _))
theorem F_fall_Rain (c : SaysY fa fn ex K) : ∃ fd, FunD K "fall" "Rain.fall" (defArgs (cst 102 2)) (defBody (cst 102 2)) (defScope (cst 102 2)) [] [] (He.ma K (CR K) "fall") fd ∧ Binds K fd ["self", "amount"] [] := by
  obtain ⟨fd, F⟩ := meth c (d := m_fall_Rain) (.tail _ (.tail _ (.tail _ (.tail _ (.tail _ (.head _))))))
  exact ⟨fd, F, FunD.bindsN F fun kV doc pm an cdv ct us hl => match us, hl with | [_, _], _ => rfl⟩
theorem M_fall_Rain (c : SaysY fa fn ex K) : Own.M K (CR K) "fall" (He.ma K (CR K) "fall") ∧ Meth K (CR K) "fall" (He.ma K (CR K) "fall") := methB_ok (exR_ok c _ (.tail _ (.head _)))
theorem F_shut_Rain (c : SaysY fa fn ex K) : ∃ fd, FunD K "shut" "Rain.shut" (defArgs (cst 102 4)) (defBody (cst 102 4)) (defScope (cst 102 4)) [] [] (He.ma K (CR K) "shut") fd ∧ Binds K fd ["self", "gate"] [] := by
  obtain ⟨fd, F⟩ := meth c (d := m_shut_Rain) (.tail _ (.tail _ (.tail _ (.tail _ (.tail _ (.tail _ (.head _)))))))
  exact ⟨fd, F, FunD.bindsN F fun kV doc pm an cdv ct us hl => match us, hl with | [_, _], _ => rfl⟩
theorem M_shut_Rain (c : SaysY fa fn ex K) : Own.M K (CR K) "shut" (He.ma K (CR K) "shut") ∧ Meth K (CR K) "shut" (He.ma K (CR K) "shut") := methB_ok (exR_ok c _ (.tail _ (.tail _ (.head _))))
theorem F_set_gate_Rain (c : SaysY fa fn ex K) : ∃ fd, FunD K "set_gate" "Rain.set_gate" (defArgs (cst 102 5)) (defBody (cst 102 5)) (defScope (cst 102 5)) [] [] (He.ma K (CR K) "set_gate") fd ∧ Binds K fd ["self", "gate", "is_shut"] [] := by
  obtain ⟨fd, F⟩ := meth c (d := m_set_gate_Rain) (.tail _ (.tail _ (.tail _ (.tail _ (.tail _ (.tail _ (.tail _ (.head _))))))))
  exact ⟨fd, F, FunD.bindsN F fun kV doc pm an cdv ct us hl => match us, hl with | [_, _, _], _ => rfl⟩
theorem M_set_gate_Rain (c : SaysY fa fn ex K) : Own.M K (CR K) "set_gate" (He.ma K (CR K) "set_gate") ∧ Meth K (CR K) "set_gate" (He.ma K (CR K) "set_gate") := methB_ok (exR_ok c _ (.tail _ (.tail _ (.tail _ (.head _)))))
theorem F_fallen_Rain (c : SaysY fa fn ex K) : ∃ fd, FunD K "fallen" "Rain.fallen" (defArgs (cst 102 8)) (defBody (cst 102 8)) (defScope (cst 102 8)) [] [] (He5.wf K (CR K) "property" "fallen") fd ∧ Binds K fd ["self"] [] := by
  obtain ⟨fd, F⟩ := meth c (d := m_fallen_Rain) (.tail _ (.tail _ (.tail _ (.tail _ (.tail _ (.tail _ (.tail _ (.tail _ (.head _)))))))))
  exact ⟨fd, F, FunD.bindsN F fun kV doc pm an cdv ct us hl => match us, hl with | [_], _ => rfl⟩
theorem P_fallen_Rain (c : SaysY fa fn ex K) : PropOf K (CR K) "fallen" (He.ma K (CR K) "fallen") (He5.wf K (CR K) "property" "fallen") := propB_ok (exR_ok c _ (.tail _ (.tail _ (.tail _ (.tail _ (.tail _ (.tail _ (.tail _ (.tail _ (.tail _ (.tail _ (.head _))))))))))))
theorem F_surfaces_Rain (c : SaysY fa fn ex K) : ∃ fd, FunD K "surfaces" "Rain.surfaces" (defArgs (cst 102 9)) (defBody (cst 102 9)) (defScope (cst 102 9)) [] [] (He5.wf K (CR K) "property" "surfaces") fd ∧ Binds K fd ["self"] [] := by
  obtain ⟨fd, F⟩ := meth c (d := m_surfaces_Rain) (.tail _ (.tail _ (.tail _ (.tail _ (.tail _ (.tail _ (.tail _ (.tail _ (.tail _ (.head _))))))))))
  exact ⟨fd, F, FunD.bindsN F fun kV doc pm an cdv ct us hl => match us, hl with | [_], _ => rfl⟩
theorem P_surfaces_Rain (c : SaysY fa fn ex K) : PropOf K (CR K) "surfaces" (He.ma K (CR K) "surfaces") (He5.wf K (CR K) "property" "surfaces") := propB_ok (exR_ok c _ (.tail _ (.tail _ (.tail _ (.tail _ (.tail _ (.tail _ (.tail _ (.tail _ (.tail _ (.tail _ (.tail _ (.head _)))))))))))))
theorem F_gates_Rain (c : SaysY fa fn ex K) : ∃ fd, FunD K "gates" "Rain.gates" (defArgs (cst 102 10)) (defBody (cst 102 10)) (defScope (cst 102 10)) [] [] (He5.wf K (CR K) "property" "gates") fd ∧ Binds K fd ["self"] [] := by
  obtain ⟨fd, F⟩ := meth c (d := m_gates_Rain) (.tail _ (.tail _ (.tail _ (.tail _ (.tail _ (.tail _ (.tail _ (.tail _ (.tail _ (.tail _ (.head _)))))))))))
  exact ⟨fd, F, FunD.bindsN F fun kV doc pm an cdv ct us hl => match us, hl with | [_], _ => rfl⟩
theorem P_gates_Rain (c : SaysY fa fn ex K) : PropOf K (CR K) "gates" (He.ma K (CR K) "gates") (He5.wf K (CR K) "property" "gates") := propB_ok (exR_ok c _ (.tail _ (.tail _ (.tail _ (.tail _ (.tail _ (.tail _ (.tail _ (.tail _ (.tail _ (.tail _ (.tail _ (.tail _ (.head _))))))))))))))
theorem F_undo_Rain (c : SaysY fa fn ex K) : ∃ fd, FunD K "undo" "Rain.undo" (defArgs (cst 102 11)) (defBody (cst 102 11)) (defScope (cst 102 11)) [] [] (He.ma K (CR K) "undo") fd ∧ Binds K fd ["self"] [] := by
  obtain ⟨fd, F⟩ := meth c (d := m_undo_Rain) (.tail _ (.tail _ (.tail _ (.tail _ (.tail _ (.tail _ (.tail _ (.tail _ (.tail _ (.tail _ (.tail _ (.head _))))))))))))
  exact ⟨fd, F, FunD.bindsN F fun kV doc pm an cdv ct us hl => match us, hl with | [_], _ => rfl⟩
theorem M_undo_Rain (c : SaysY fa fn ex K) : Own.M K (CR K) "undo" (He.ma K (CR K) "undo") ∧ Meth K (CR K) "undo" (He.ma K (CR K) "undo") := methB_ok (exR_ok c _ (.tail _ (.tail _ (.tail _ (.tail _ (.head _))))))
theorem F_lines_Rain (c : SaysY fa fn ex K) : ∃ fd, FunD K "lines" "Rain.lines" (defArgs (cst 102 13)) (defBody (cst 102 13)) (defScope (cst 102 13)) [] [("only", .non)] (He.ma K (CR K) "lines") fd := meth c (d := m_lines_Rain) (.tail _ (.tail _ (.tail _ (.tail _ (.tail _ (.tail _ (.tail _ (.tail _ (.tail _ (.tail _ (.tail _ (.tail _ (.head _)))))))))))))
theorem M_lines_Rain (c : SaysY fa fn ex K) : Own.M K (CR K) "lines" (He.ma K (CR K) "lines") ∧ Meth K (CR K) "lines" (He.ma K (CR K) "lines") := methB_ok (exR_ok c _ (.tail _ (.tail _ (.tail _ (.tail _ (.tail _ (.head _)))))))
theorem F_getitem_Rain (c : SaysY fa fn ex K) : ∃ fd, FunD K "__getitem__" "Rain.__getitem__" (defArgs (cst 102 14)) (defBody (cst 102 14)) (defScope (cst 102 14)) [] [] (He.ma K (CR K) "__getitem__") fd ∧ Binds K fd ["self", "column"] [] := by
  obtain ⟨fd, F⟩ := meth c (d := m_getitem_Rain) (.tail _ (.tail _ (.tail _ (.tail _ (.tail _ (.tail _ (.tail _ (.tail _ (.tail _ (.tail _ (.tail _ (.tail _ (.tail _ (.head _))))))))))))))
  exact ⟨fd, F, FunD.bindsN F fun kV doc pm an cdv ct us hl => match us, hl with | [_, _], _ => rfl⟩
theorem M_getitem_Rain (c : SaysY fa fn ex K) : Own.M K (CR K) "__getitem__" (He.ma K (CR K) "__getitem__") ∧ Meth K (CR K) "__getitem__" (He.ma K (CR K) "__getitem__") := methB_ok (exR_ok c _ (.tail _ (.tail _ (.tail _ (.tail _ (.tail _ (.tail _ (.head _))))))))
theorem F_contains_Rain (c : SaysY fa fn ex K) : ∃ fd, FunD K "__contains__" "Rain.__contains__" (defArgs (cst 102 15)) (defBody (cst 102 15)) (defScope (cst 102 15)) [] [] (He.ma K (CR K) "__contains__") fd ∧ Binds K fd ["self", "value"] [] := by
  obtain ⟨fd, F⟩ := meth c (d := m_contains_Rain) (.tail _ (.tail _ (.tail _ (.tail _ (.tail _ (.tail _ (.tail _ (.tail _ (.tail _ (.tail _ (.tail _ (.tail _ (.tail _ (.tail _ (.head _)))))))))))))))
  exact ⟨fd, F, FunD.bindsN F fun kV doc pm an cdv ct us hl => match us, hl with | [_, _], _ => rfl⟩
theorem M_contains_Rain (c : SaysY fa fn ex K) : Own.M K (CR K) "__contains__" (He.ma K (CR K) "__contains__") ∧ Meth K (CR K) "__contains__" (He.ma K (CR K) "__contains__") := methB_ok (exR_ok c _ (.tail _ (.tail _ (.tail _ (.tail _ (.tail _ (.tail _ (.tail _ (.head _)))))))))
theorem F_len_Rain (c : SaysY fa fn ex K) : ∃ fd, FunD K "__len__" "Rain.__len__" (defArgs (cst 102 16)) (defBody (cst 102 16)) (defScope (cst 102 16)) [] [] (He.ma K (CR K) "__len__") fd ∧ Binds K fd ["self"] [] := by
  obtain ⟨fd, F⟩ := meth c (d := m_len_Rain) (.tail _ (.tail _ (.tail _ (.tail _ (.tail _ (.tail _ (.tail _ (.tail _ (.tail _ (.tail _ (.tail _ (.tail _ (.tail _ (.tail _ (.tail _ (.head _))))))))))))))))
  exact ⟨fd, F, FunD.bindsN F fun kV doc pm an cdv ct us hl => match us, hl with | [_], _ => rfl⟩
theorem M_len_Rain (c : SaysY fa fn ex K) : Own.M K (CR K) "__len__" (He.ma K (CR K) "__len__") ∧ Meth K (CR K) "__len__" (He.ma K (CR K) "__len__") := methB_ok (exR_ok c _ (.tail _ (.tail _ (.tail _ (.tail _ (.tail _ (.tail _ (.tail _ (.tail _ (.head _))))))))))
theorem F_bool_Rain (c : SaysY fa fn ex K) : ∃ fd, FunD K "__bool__" "Rain.__bool__" (defArgs (cst 102 17)) (defBody (cst 102 17)) (defScope (cst 102 17)) [] [] (He.ma K (CR K) "__bool__") fd ∧ Binds K fd ["self"] [] := by
  obtain ⟨fd, F⟩ := meth c (d := m_bool_Rain) (.tail _ (.tail _ (.tail _ (.tail _ (.tail _ (.tail _ (.tail _ (.tail _ (.tail _ (.tail _ (.tail _ (.tail _ (.tail _ (.tail _ (.tail _ (.tail _ (.head _)))))))))))))))))
  exact ⟨fd, F, FunD.bindsN F fun kV doc pm an cdv ct us hl => match us, hl with | [_], _ => rfl⟩
theorem M_bool_Rain (c : SaysY fa fn ex K) : Own.M K (CR K) "__bool__" (He.ma K (CR K) "__bool__") ∧ Meth K (CR K) "__bool__" (He.ma K (CR K) "__bool__") := methB_ok (exR_ok c _ (.tail _ (.tail _ (.tail _ (.tail _ (.tail _ (.tail _ (.tail _ (.tail _ (.tail _ (.head _)))))))))))
theorem F_init_Land (c : SaysY fa fn ex K) : ∃ fd, FunD K "__init__" "Land.__init__" (defArgs (cst 122 1)) (defBody (cst 122 1)) (defScope (cst 122 1)) [] [] (He.ma K (CL K) "__init__") fd ∧ Binds K fd ["self", "heights", "gates", "rain"] [] := by
  obtain ⟨fd, F⟩ := meth c (d := m_init_Land) (.tail _ (.tail _ (.tail _ (.tail _ (.tail _ (.tail _ (.tail _ (.tail _ (.tail _ (.tail _ (.tail _ (.tail _ (.tail _ (.tail _ (.tail _ (.tail _ (.tail _ (.head _))))))))))))))))))
  exact ⟨fd, F, FunD.bindsN F fun kV doc pm an cdv ct us hl => match us, hl with | [_, _, _, _], _ => rfl⟩
theorem F_valley_Land (c : SaysY fa fn ex K) : ∃ fd, FunD K "valley" "Land.valley" (defArgs (cst 122 2)) (defBody (cst 122 2)) (defScope (cst 122 2)) [] [] (He5.wf K (CL K) "classmethod" "valley") fd ∧ Binds K fd ["cls", "depth", "width"] [] := by
  obtain ⟨fd, F⟩ := meth c (d := m_valley_Land) (.tail _ (.tail _ (.tail _ (.tail _ (.tail _ (.tail _ (.tail _ (.tail _ (.tail _ (.tail _ (.tail _ (.tail _ (.tail _ (.tail _ (.tail _ (.tail _ (.tail _ (.tail _ (.head _)))))))))))))))))))
  exact ⟨fd, F, FunD.bindsN F fun kV doc pm an cdv ct us hl => match us, hl with | [_, _, _], _ => rfl⟩
theorem F_source_Land (c : SaysY fa fn ex K) : ∃ fd, FunD K "source" "Land.source" (defArgs (cst 122 3)) (defBody (cst 122 3)) (defScope (cst 122 3)) [] [] (He5.wf K (CL K) "property" "source") fd ∧ Binds K fd ["self"] [] := by
  obtain ⟨fd, F⟩ := meth c (d := m_source_Land) (.tail _ (.tail _ (.tail _ (.tail _ (.tail _ (.tail _ (.tail _ (.tail _ (.tail _ (.tail _ (.tail _ (.tail _ (.tail _ (.tail _ (.tail _ (.tail _ (.tail _ (.tail _ (.tail _ (.head _))))))))))))))))))))
  exact ⟨fd, F, FunD.bindsN F fun kV doc pm an cdv ct us hl => match us, hl with | [_], _ => rfl⟩
theorem P_source_Land (c : SaysY fa fn ex K) : PropOf K (CL K) "source" (He.ma K (CL K) "source") (He5.wf K (CL K) "property" "source") := propB_ok (exL_ok c _ (.tail _ (.tail _ (.tail _ (.tail _ (.tail _ (.tail _ (.tail _ (.tail _ (.tail _ (.head _)))))))))))
theorem F_add_Land (c : SaysY fa fn ex K) : ∃ fd, FunD K "__add__" "Land.__add__" (defArgs (cst 122 4)) (defBody (cst 122 4)) (defScope (cst 122 4)) [] [] (He.ma K (CL K) "__add__") fd ∧ Binds K fd ["self", "height"] [] := by
  obtain ⟨fd, F⟩ := meth c (d := m_add_Land) (.tail _ (.tail _ (.tail _ (.tail _ (.tail _ (.tail _ (.tail _ (.tail _ (.tail _ (.tail _ (.tail _ (.tail _ (.tail _ (.tail _ (.tail _ (.tail _ (.tail _ (.tail _ (.tail _ (.tail _ (.head _)))))))))))))))))))))
  exact ⟨fd, F, FunD.bindsN F fun kV doc pm an cdv ct us hl => match us, hl with | [_, _], _ => rfl⟩
theorem M_add_Land (c : SaysY fa fn ex K) : Own.M K (CL K) "__add__" (He.ma K (CL K) "__add__") ∧ Meth K (CL K) "__add__" (He.ma K (CL K) "__add__") := methB_ok (exL_ok c _ (.head _))
theorem F_sub_Land (c : SaysY fa fn ex K) : ∃ fd, FunD K "__sub__" "Land.__sub__" (defArgs (cst 122 5)) (defBody (cst 122 5)) (defScope (cst 122 5)) [] [] (He.ma K (CL K) "__sub__") fd ∧ Binds K fd ["self", "count"] [] := by
  obtain ⟨fd, F⟩ := meth c (d := m_sub_Land) (.tail _ (.tail _ (.tail _ (.tail _ (.tail _ (.tail _ (.tail _ (.tail _ (.tail _ (.tail _ (.tail _ (.tail _ (.tail _ (.tail _ (.tail _ (.tail _ (.tail _ (.tail _ (.tail _ (.tail _ (.tail _ (.head _))))))))))))))))))))))
  exact ⟨fd, F, FunD.bindsN F fun kV doc pm an cdv ct us hl => match us, hl with | [_, _], _ => rfl⟩
theorem M_sub_Land (c : SaysY fa fn ex K) : Own.M K (CL K) "__sub__" (He.ma K (CL K) "__sub__") ∧ Meth K (CL K) "__sub__" (He.ma K (CL K) "__sub__") := methB_ok (exL_ok c _ (.tail _ (.head _)))
theorem F_mul_Land (c : SaysY fa fn ex K) : ∃ fd, FunD K "__mul__" "Land.__mul__" (defArgs (cst 122 6)) (defBody (cst 122 6)) (defScope (cst 122 6)) [] [] (He.ma K (CL K) "__mul__") fd ∧ Binds K fd ["self", "gate"] [] := by
  obtain ⟨fd, F⟩ := meth c (d := m_mul_Land) (.tail _ (.tail _ (.tail _ (.tail _ (.tail _ (.tail _ (.tail _ (.tail _ (.tail _ (.tail _ (.tail _ (.tail _ (.tail _ (.tail _ (.tail _ (.tail _ (.tail _ (.tail _ (.tail _ (.tail _ (.tail _ (.tail _ (.head _)))))))))))))))))))))))
  exact ⟨fd, F, FunD.bindsN F fun kV doc pm an cdv ct us hl => match us, hl with | [_, _], _ => rfl⟩
theorem M_mul_Land (c : SaysY fa fn ex K) : Own.M K (CL K) "__mul__" (He.ma K (CL K) "__mul__") ∧ Meth K (CL K) "__mul__" (He.ma K (CL K) "__mul__") := methB_ok (exL_ok c _ (.tail _ (.tail _ (.head _))))
theorem F_invert_Land (c : SaysY fa fn ex K) : ∃ fd, FunD K "__invert__" "Land.__invert__" (defArgs (cst 122 7)) (defBody (cst 122 7)) (defScope (cst 122 7)) [] [] (He.ma K (CL K) "__invert__") fd ∧ Binds K fd ["self"] [] := by
  obtain ⟨fd, F⟩ := meth c (d := m_invert_Land) (.tail _ (.tail _ (.tail _ (.tail _ (.tail _ (.tail _ (.tail _ (.tail _ (.tail _ (.tail _ (.tail _ (.tail _ (.tail _ (.tail _ (.tail _ (.tail _ (.tail _ (.tail _ (.tail _ (.tail _ (.tail _ (.tail _ (.tail _ (.head _))))))))))))))))))))))))
  exact ⟨fd, F, FunD.bindsN F fun kV doc pm an cdv ct us hl => match us, hl with | [_], _ => rfl⟩
theorem M_invert_Land (c : SaysY fa fn ex K) : Own.M K (CL K) "__invert__" (He.ma K (CL K) "__invert__") ∧ Meth K (CL K) "__invert__" (He.ma K (CL K) "__invert__") := methB_ok (exL_ok c _ (.tail _ (.tail _ (.tail _ (.head _)))))
theorem F_call_Land (c : SaysY fa fn ex K) : ∃ fd, FunD K "__call__" "Land.__call__" (defArgs (cst 122 10)) (defBody (cst 122 10)) (defScope (cst 122 10)) [] [] (He.ma K (CL K) "__call__") fd ∧ Binds K fd ["self", "amount"] [] := by
  obtain ⟨fd, F⟩ := meth c (d := m_call_Land) (.tail _ (.tail _ (.tail _ (.tail _ (.tail _ (.tail _ (.tail _ (.tail _ (.tail _ (.tail _ (.tail _ (.tail _ (.tail _ (.tail _ (.tail _ (.tail _ (.tail _ (.tail _ (.tail _ (.tail _ (.tail _ (.tail _ (.tail _ (.tail _ (.head _)))))))))))))))))))))))))
  exact ⟨fd, F, FunD.bindsN F fun kV doc pm an cdv ct us hl => match us, hl with | [_, _], _ => rfl⟩
theorem M_call_Land (c : SaysY fa fn ex K) : Own.M K (CL K) "__call__" (He.ma K (CL K) "__call__") ∧ Meth K (CL K) "__call__" (He.ma K (CL K) "__call__") := methB_ok (exL_ok c _ (.tail _ (.tail _ (.tail _ (.tail _ (.head _))))))
theorem F_getitem_Land (c : SaysY fa fn ex K) : ∃ fd, FunD K "__getitem__" "Land.__getitem__" (defArgs (cst 122 11)) (defBody (cst 122 11)) (defScope (cst 122 11)) [] [] (He.ma K (CL K) "__getitem__") fd ∧ Binds K fd ["self", "column"] [] := by
  obtain ⟨fd, F⟩ := meth c (d := m_getitem_Land) (.tail _ (.tail _ (.tail _ (.tail _ (.tail _ (.tail _ (.tail _ (.tail _ (.tail _ (.tail _ (.tail _ (.tail _ (.tail _ (.tail _ (.tail _ (.tail _ (.tail _ (.tail _ (.tail _ (.tail _ (.tail _ (.tail _ (.tail _ (.tail _ (.tail _ (.head _))))))))))))))))))))))))))
  exact ⟨fd, F, FunD.bindsN F fun kV doc pm an cdv ct us hl => match us, hl with | [_, _], _ => rfl⟩
theorem M_getitem_Land (c : SaysY fa fn ex K) : Own.M K (CL K) "__getitem__" (He.ma K (CL K) "__getitem__") ∧ Meth K (CL K) "__getitem__" (He.ma K (CL K) "__getitem__") := methB_ok (exL_ok c _ (.tail _ (.tail _ (.tail _ (.tail _ (.tail _ (.head _)))))))
theorem F_len_Land (c : SaysY fa fn ex K) : ∃ fd, FunD K "__len__" "Land.__len__" (defArgs (cst 122 12)) (defBody (cst 122 12)) (defScope (cst 122 12)) [] [] (He.ma K (CL K) "__len__") fd ∧ Binds K fd ["self"] [] := by
  obtain ⟨fd, F⟩ := meth c (d := m_len_Land) (.tail _ (.tail _ (.tail _ (.tail _ (.tail _ (.tail _ (.tail _ (.tail _ (.tail _ (.tail _ (.tail _ (.tail _ (.tail _ (.tail _ (.tail _ (.tail _ (.tail _ (.tail _ (.tail _ (.tail _ (.tail _ (.tail _ (.tail _ (.tail _ (.tail _ (.tail _ (.head _)))))))))))))))))))))))))))
  exact ⟨fd, F, FunD.bindsN F fun kV doc pm an cdv ct us hl => match us, hl with | [_], _ => rfl⟩
theorem M_len_Land (c : SaysY fa fn ex K) : Own.M K (CL K) "__len__" (He.ma K (CL K) "__len__") ∧ Meth K (CL K) "__len__" (He.ma K (CL K) "__len__") := methB_ok (exL_ok c _ (.tail _ (.tail _ (.tail _ (.tail _ (.tail _ (.tail _ (.head _))))))))
theorem F_contains_Land (c : SaysY fa fn ex K) : ∃ fd, FunD K "__contains__" "Land.__contains__" (defArgs (cst 122 13)) (defBody (cst 122 13)) (defScope (cst 122 13)) [] [] (He.ma K (CL K) "__contains__") fd ∧ Binds K fd ["self", "value"] [] := by
  obtain ⟨fd, F⟩ := meth c (d := m_contains_Land) (.tail _ (.tail _ (.tail _ (.tail _ (.tail _ (.tail _ (.tail _ (.tail _ (.tail _ (.tail _ (.tail _ (.tail _ (.tail _ (.tail _ (.tail _ (.tail _ (.tail _ (.tail _ (.tail _ (.tail _ (.tail _ (.tail _ (.tail _ (.tail _ (.tail _ (.tail _ (.tail _ (.head _))))))))))))))))))))))))))))
  exact ⟨fd, F, FunD.bindsN F fun kV doc pm an cdv ct us hl => match us, hl with | [_, _], _ => rfl⟩
theorem M_contains_Land (c : SaysY fa fn ex K) : Own.M K (CL K) "__contains__" (He.ma K (CL K) "__contains__") ∧ Meth K (CL K) "__contains__" (He.ma K (CL K) "__contains__") := methB_ok (exL_ok c _ (.tail _ (.tail _ (.tail _ (.tail _ (.tail _ (.tail _ (.tail _ (.head _)))))))))
theorem F_bool_Land (c : SaysY fa fn ex K) : ∃ fd, FunD K "__bool__" "Land.__bool__" (defArgs (cst 122 14)) (defBody (cst 122 14)) (defScope (cst 122 14)) [] [] (He.ma K (CL K) "__bool__") fd ∧ Binds K fd ["self"] [] := by
  obtain ⟨fd, F⟩ := meth c (d := m_bool_Land) (.tail _ (.tail _ (.tail _ (.tail _ (.tail _ (.tail _ (.tail _ (.tail _ (.tail _ (.tail _ (.tail _ (.tail _ (.tail _ (.tail _ (.tail _ (.tail _ (.tail _ (.tail _ (.tail _ (.tail _ (.tail _ (.tail _ (.tail _ (.tail _ (.tail _ (.tail _ (.tail _ (.tail _ (.head _)))))))))))))))))))))))))))))
  exact ⟨fd, F, FunD.bindsN F fun kV doc pm an cdv ct us hl => match us, hl with | [_], _ => rfl⟩
theorem M_bool_Land (c : SaysY fa fn ex K) : Own.M K (CL K) "__bool__" (He.ma K (CL K) "__bool__") ∧ Meth K (CL K) "__bool__" (He.ma K (CL K) "__bool__") := methB_ok (exL_ok c _ (.tail _ (.tail _ (.tail _ (.tail _ (.tail _ (.tail _ (.tail _ (.tail _ (.head _))))))))))
theorem O_Mult (c : SaysY fa fn ex K) : Own.OpM K (CL K) .Mult (He.ma K (CL K) (PySem.dunder (Operator.info .Mult).2)) "tuple" := opMB_ok (exL_ok c _ (.tail _ (.tail _ (.tail _ (.tail _ (.tail _ (.tail _ (.tail _ (.tail _ (.tail _ (.tail _ (.head _))))))))))))
theorem O_Add (c : SaysY fa fn ex K) : Own.OpM K (CL K) .Add (He.ma K (CL K) (PySem.dunder (Operator.info .Add).2)) "int" := opMB_ok (exL_ok c _ (.tail _ (.tail _ (.tail _ (.tail _ (.tail _ (.tail _ (.tail _ (.tail _ (.tail _ (.tail _ (.tail _ (.head _)))))))))))))
theorem O_Sub (c : SaysY fa fn ex K) : Own.OpM K (CL K) .Sub (He.ma K (CL K) (PySem.dunder (Operator.info .Sub).2)) "int" := opMB_ok (exL_ok c _ (.tail _ (.tail _ (.tail _ (.tail _ (.tail _ (.tail _ (.tail _ (.tail _ (.tail _ (.tail _ (.tail _ (.tail _ (.head _))))))))))))))
theorem V_valley (c : SaysY fa fn ex K) : ClX.CRead K (CL K) (.type "type") ∧ ClX.CMet K (CL K) (.type "type") "valley" (He.ma K (CL K) "valley") (He5.wf K (CL K) "classmethod" "valley") := cmB_ok (exL_ok c _ (.tail _ (.tail _ (.tail _ (.tail _ (.tail _ (.tail _ (.tail _ (.tail _ (.tail _ (.tail _ (.tail _ (.tail _ (.tail _ (.head _)))))))))))))))
theorem D__law_rest_right (c : SaysY fa fn ex K) : ∃ fd, FunD K "_law_rest_right" "_law_rest_right" (defArgs (top 130)) (defBody (top 130)) (defScope (top 130)) [] [] (He.ga K "_law_rest_right") fd ∧ Binds K fd ["h", "g", "q", "w", "v"] [] := by
  obtain ⟨fd, F⟩ := meth c (d := dA dr__law_rest_right) (.head _)
  exact ⟨fd, F, FunD.bindsN F fun kV doc pm an cdv ct us hl => match us, hl with | [_, _, _, _, _], _ => rfl⟩
theorem D__law_rain_right (c : SaysY fa fn ex K) : ∃ fd, FunD K "_law_rain_right" "_law_rain_right" (defArgs (top 131)) (defBody (top 131)) (defScope (top 131)) [] [] (He.ga K "_law_rain_right") fd ∧ Binds K fd ["g"] [] := by
  obtain ⟨fd, F⟩ := meth c (d := dA dr__law_rain_right) (.tail _ (.head _))
  exact ⟨fd, F, FunD.bindsN F fun kV doc pm an cdv ct us hl => match us, hl with | [_], _ => rfl⟩
theorem D_law (c : SaysY fa fn ex K) : ∃ fd, FunD K "law" "law" (defArgs (top 132)) (defBody (top 132)) (defScope (top 132)) [] [] (He.ga K "law") fd ∧ Binds K fd ["script"] [] := by
  obtain ⟨fd, F⟩ := meth c (d := dA dr_law) (.tail _ (.tail _ (.head _)))
  exact ⟨fd, F, FunD.bindsN F fun kV doc pm an cdv ct us hl => match us, hl with | [_], _ => rfl⟩
end
end K16
set_option Elab.async false
set_option linter.all false
set_option maxRecDepth 100000
set_option maxHeartbeats 0
/-! The worked examples: the methods of Land. -/
namespace K16
open PySem PySem.Spec PyProof.Rows L2 PD
/-! ### data -/
def hts : D := .tuple [.int 3, .int 0, .int 2, .int 1, .int 4]
def r04 : D := .tuple [.int 0, .int 4]
def hDat : D := .tuple [hts, .tuple [], r04]
def gDat : D := .tuple [hts, .tuple [.tuple [.int 2, .int 3, .bool false]], r04]
def qDat : D := .tuple [.tuple [.int 4, .int 1, .int 3, .int 0, .int 2], .tuple [.tuple [.int 2, .int 3, .bool false]], .tuple [.int 0, .int 1]]
def wDat : D := .tuple [.tuple [.str "wait", .int 3, .int 2], .tuple [.str "shut", .int 0]]
def vDat : D := .tuple [.tuple [.str "wait", .int 1, .int 2], .tuple [.str "shut", .int 0]]
mutual
def beqD : D → D → Bool
  | .none, .none => true
  | .bool a, .bool b => a == b
  | .int a, .int b => decide (a = b)
  | .str a, .str b => decide (a = b)
  | .tuple a, .tuple b => beqDs a b
  | .list a, .list b => beqDs a b
  | _, _ => false
def beqDs : List D → List D → Bool
  | [], [] => true
  | x :: a, y :: b => beqD x y && beqDs a b
  | _, _ => false
end
mutual
theorem beqD_eq : ∀ {a b : D}, beqD a b = true → a = b
  | .none, .none, _ => rfl
  | .bool a, .bool b, h => by rw [eq_of_beq (show (a == b) = true by simpa only [beqD] using h)]
  | .int a, .int b, h => by rw [of_decide_eq_true (show decide (a = b) = true by simpa only [beqD] using h)]
  | .str a, .str b, h => by rw [of_decide_eq_true (show decide (a = b) = true by simpa only [beqD] using h)]
  | .tuple a, .tuple b, h => by rw [beqDs_eq (show beqDs a b = true by simpa only [beqD] using h)]
  | .list a, .list b, h => by rw [beqDs_eq (show beqDs a b = true by simpa only [beqD] using h)]
  | .none, .bool _, h => by simp only [beqD] at h; cases h
  | .none, .int _, h => by simp only [beqD] at h; cases h
  | .none, .str _, h => by simp only [beqD] at h; cases h
  | .none, .tuple _, h => by simp only [beqD] at h; cases h
  | .none, .list _, h => by simp only [beqD] at h; cases h
  | .none, .dict _, h => by simp only [beqD] at h; cases h
  | .bool _, .none, h => by simp only [beqD] at h; cases h
  | .bool _, .int _, h => by simp only [beqD] at h; cases h
  | .bool _, .str _, h => by simp only [beqD] at h; cases h
  | .bool _, .tuple _, h => by simp only [beqD] at h; cases h
  | .bool _, .list _, h => by simp only [beqD] at h; cases h
  | .bool _, .dict _, h => by simp only [beqD] at h; cases h
  | .int _, .none, h => by simp only [beqD] at h; cases h
  | .int _, .bool _, h => by simp only [beqD] at h; cases h
  | .int _, .str _, h => by simp only [beqD] at h; cases h
  | .int _, .tuple _, h => by simp only [beqD] at h; cases h
  | .int _, .list _, h => by simp only [beqD] at h; cases h
  | .int _, .dict _, h => by simp only [beqD] at h; cases h
  | .str _, .none, h => by simp only [beqD] at h; cases h
  | .str _, .bool _, h => by simp only [beqD] at h; cases h
  | .str _, .int _, h => by simp only [beqD] at h; cases h
  | .str _, .tuple _, h => by simp only [beqD] at h; cases h
  | .str _, .list _, h => by simp only [beqD] at h; cases h
  | .str _, .dict _, h => by simp only [beqD] at h; cases h
  | .tuple _, .none, h => by simp only [beqD] at h; cases h
  | .tuple _, .bool _, h => by simp only [beqD] at h; cases h
  | .tuple _, .int _, h => by simp only [beqD] at h; cases h
  | .tuple _, .str _, h => by simp only [beqD] at h; cases h
  | .tuple _, .list _, h => by simp only [beqD] at h; cases h
  | .tuple _, .dict _, h => by simp only [beqD] at h; cases h
  | .list _, .none, h => by simp only [beqD] at h; cases h
  | .list _, .bool _, h => by simp only [beqD] at h; cases h
  | .list _, .int _, h => by simp only [beqD] at h; cases h
  | .list _, .str _, h => by simp only [beqD] at h; cases h
  | .list _, .tuple _, h => by simp only [beqD] at h; cases h
  | .list _, .dict _, h => by simp only [beqD] at h; cases h
  | .dict _, _, h => by simp only [beqD] at h; cases h
theorem beqDs_eq : ∀ {a b : List D}, beqDs a b = true → a = b
  | [], [], _ => rfl
  | x :: a, y :: b, h => by
    simp only [beqDs, Bool.and_eq_true] at h
    rw [beqD_eq h.1, beqDs_eq h.2]
  | [], _ :: _, h => by simp only [beqDs] at h; cases h
  | _ :: _, [], h => by simp only [beqDs] at h; cases h
end
def only (as : List D) (ds : List D) : PD.R D := if beqDs ds as = true then .ok (.bool true) else .stuck
def restC : List D → PD.R D := only [hDat, gDat, qDat, wDat, vDat]
def rainC : List D → PD.R D := only [gDat]
def nat16 (f : Nat) : Option (List D → PD.R D) := if f = 189 then some restC else if f = 190 then some rainC else none
/-- the program, two defs by hand -/
def P16 : Prog := ⟨P0.gc, P0.en, nat16, P0.fn⟩
theorem like16 : Like P16 := ⟨rfl, rfl, fun r hr => by
  have h : rs.all (fun r => (nat16 r.id).isNone) = true := by decide +kernel
  exact Option.isNone_iff_eq_none.mp (List.all_eq_true.mp h r hr)⟩
abbrev U16 (w : World) (K : PySem.W.Frag) (mg : Str → Option Value) (base : Heap) : Wd := U P16 w K mg base
/-- a def at its place, with its promise -/
def Ok (w : World) (K : PySem.W.Frag) (mg : Str → Option Value) (base : Heap) (k : Nat) (g : Addr) (ps : List Str) (sp : Sp) : Prop := ∃ fd, FnOk (U16 w K mg base).P w K mg base (L2N.CX (U16 w K mg base).P w) k g fd ps sp ∧ Binds K fd ps []
def kf (d : D) : List (Str × D) := [("kept", d)]
section
variable {w : World} {K : PySem.W.Frag} {h : Heap} {mg : Str → Option Value} {base : Heap}
/-! ### Land -/
def RL (ds : List D) (fs' : List (Str × D)) : Prop := ∃ a b r, ds = [a, b, r] ∧ fs' = kf (.tuple [a, b, r]) ∧ callP P16 40 11 [.tuple [a, b, r]] = .ok .none
theorem initL_s0 {q : Addr} {a b r : D} (hc : callP P16 40 11 [.tuple [a, b, r]] = .ok .none) : evS (tab P16 40) (.expr (.call 11 (.cons (.tup (.cons (.var 1) (.cons (.var 2) (.cons (.var 3) .nil)))) .nil))) [.ins q [], .val a, .val b, .val r] [] = .ok (.nx [.ins q [], .val a, .val b, .val r], []) := by
  have hc' : (tab P16 40).call 11 [.tuple [a, b, r]] = .ok .none := hc
  simp only [evS, ev, evs, getV, ofO, M.bind, R.bind, List.getElem?_cons_succ, List.getElem?_cons_zero, hc']
theorem initL (X : K.In h) (G : h.Ns mainGlobals mg) (c : SaysY fa fn ex K) : Ok w K mg base 121 (He.ma K (CL K) "__init__") ["self", "heights", "gates", "rain"] (spI (U16 w K mg base) (CL K) 4 RL) := by
  obtain ⟨fd, F, hb⟩ := F_init_Land c
  have dh : DefH (U16 w K mg base) 40 120 c_init_Land ["self", "heights", "gates", "rain"] (defScope (cst 122 1)) := defH like16 X G c rfl rfl rfl rfl (by decide +kernel) rfl rfl (by decide)
  refine ⟨fd, fnI dh F (by decide) (clsL c).1 fun X kx hr q ds fs' hl ⟨a, b, r, e1, e2, hc⟩ => ?_, hb⟩
  subst e1 e2
  refine ⟨[.ins q (kf (.tuple [a, b, r])), .val a, .val b, .val r], rfl, ?_⟩
  have s0 := kS_plain (cl := cl0 [(0, CL K)]) (st := (defBody (cst 122 1)).getD 0 (.Pass ⟨0, 0, 0, 0⟩)) kx (by kernel_rfl) (initL_s0 (q := q) hc) rfl (fun i a fs h => h)
  exact kI_cons (kI_of s0) (kI_one (kI_fld (i := 0) (z := "self") kx (by decide +kernel) (by decide +kernel) (by decide +kernel) rfl (oneIns0 rfl) rfl (kx.K ▸ (clsL c).2 "kept" (by simp)) (by decide)
    (k_plain (m := .tup (.cons (.var 1) (.cons (.var 2) (.cons (.var 3) .nil)))) (c := true) kx (by kernel_rfl) rfl)))
end
end K16
set_option Elab.async false
set_option linter.all false
set_option maxRecDepth 100000
set_option maxHeartbeats 0
/-! The worked examples: the methods of Rain. -/
namespace K16
open PySem PySem.Spec PyProof.Rows L2 PD
section
variable {w : World} {K : PySem.W.Frag} {h : Heap} {mg : Str → Option Value} {base : Heap}
def fq (a b : Int) : D := .tuple [.int a, .int b]
def S0 : D := .tuple [fq 0 1, .tuple [fq 3 1, fq 0 1, fq 2 1, fq 1 1, fq 4 1], .tuple [], .int 0, .bool false]
def S1 : D := .tuple [fq 1 2, .tuple [fq 3 1, fq 1 1, fq 2 1, fq 2 1, fq 4 1], .tuple [], .int 0, .bool false]
def S2 : D := .tuple [fq 1 2, .tuple [fq 3 1, fq 1 1, fq 5 1, fq 2 1, fq 4 1], .tuple [.int 0], .int 0, .bool false]
def S3 : D := .tuple [fq 3 4, .tuple [fq 3 1, fq 3 2, fq 5 1, fq 5 2, fq 4 1], .tuple [.int 0], .int 0, .bool false]
def S6 : D := .tuple [fq 1 1, .tuple [fq 3 1, fq 7 3, fq 7 3, fq 7 3, fq 4 1], .tuple [], .int 0, .bool false]
def rf (now : D) (past : List D) : List (Str × D) := [("place", gDat), ("now", now), ("past", .tuple past)]
def F0 := rf S0 []
def F1 := rf S1 [S0]
def F2 := rf S2 [S0, S1]
def F3 := rf S3 [S0, S1, S2]
def F6 := rf S6 [S0, S1]
theorem nR (c : SaysY fa fn ex K) {f : Str} (hf : f ∈ ([("place" : Str), "now", "past"] : List Str)) : NoAttr K (CR K) f := (clsR c).2 f hf
theorem initR (X : K.In h) (G : h.Ns mainGlobals mg) (c : SaysY fa fn ex K) : Ok w K mg base 121 (He.ma K (CR K) "__init__") ["self", "land"] (spI (U16 w K mg base) (CR K) 2 fun ds fs' => ds = [gDat] ∧ fs' = F0) := by
  obtain ⟨fd, F, hb⟩ := F_init_Rain c
  have dh : DefH (U16 w K mg base) 40 120 c_init_Rain ["self", "land"] (defScope (cst 102 0)) := defH like16 X G c rfl rfl rfl rfl (by decide +kernel) rfl rfl (by decide)
  refine ⟨fd, fnI dh F (by decide) (clsR c).1 fun Y kx hr q ds fs' hl ⟨e1, e2⟩ => ?_, hb⟩
  subst e1 e2
  refine ⟨[.ins q F0, .val gDat], rfl, ?_⟩
  refine kI_cons (kI_of (x_s (e1 := [.ins q [], .val gDat]) kx (by kernel_rfl) rfl (by exact insLe_ins rfl))) ?_
  refine kI_cons (e1 := [.ins q [("place", gDat)], .val gDat]) (kI_fld (i := 0) (z := "self") kx (by decide +kernel) (by decide +kernel) (by decide +kernel) rfl (oneIns0 rfl) rfl (kx.na (nR c (by simp))) (by decide) (x_e kx (by kernel_rfl))) ?_
  refine kI_cons (e1 := [.ins q [("place", gDat), ("now", S0)], .val gDat]) (kI_fld (i := 0) (z := "self") kx (by decide +kernel) (by decide +kernel) (by decide +kernel) rfl (oneIns0 rfl) rfl (kx.na (nR c (by simp))) (by decide) (x_e kx (by kernel_rfl))) ?_
  exact kI_one (kI_fld (i := 0) (z := "self") (d := .tuple []) kx (by decide +kernel) (by decide +kernel) (by decide +kernel) rfl (oneIns0 rfl) rfl (kx.na (nR c (by simp))) (by decide) (x_e kx (by kernel_rfl)))
/-- self.past = self.past + (self.now,); self.now = state -/
def movedT : TabW := [(F0, [S1], F1, .none), (F1, [S2], F2, .none), (F2, [S3], F3, .none), (F1, [S6], F6, .none)]
theorem movedR (X : K.In h) (G : h.Ns mainGlobals mg) (c : SaysY fa fn ex K) : Ok w K mg base 121 (He.ma K (CR K) "moved") ["self", "state"] (spW (U16 w K mg base) (CR K) 2 fun _ fs ds fs' d => (fs, ds, fs', d) ∈ movedT) := by
  obtain ⟨fd, F, hb⟩ := F_moved_Rain c
  have dh : DefH (U16 w K mg base) 40 120 c_moved_Rain ["self", "state"] (defScope (cst 102 1)) := defH like16 X G c rfl rfl rfl rfl (by decide +kernel) rfl rfl (by decide)
  refine ⟨fd, fnW dh F (by decide) fun Y kx hr q fs ds fs' d hl ht cl hcl => ?_, hb⟩
  have hc0 : cl.l.lookup 0 = some (CR K) := by rw [hcl]; rfl
  simp only [movedT, List.mem_cons, List.not_mem_nil, or_false, Prod.mk.injEq] at ht
  rcases ht with ⟨rfl, rfl, rfl, rfl⟩ | ⟨rfl, rfl, rfl, rfl⟩ | ⟨rfl, rfl, rfl, rfl⟩ | ⟨rfl, rfl, rfl, rfl⟩
  · refine ⟨[.ins q F1, .val S1], rfl, .inr ⟨rfl, ?_⟩⟩
    refine kS_cons (p1 := false) (p2 := false) (e1 := [.ins q (rf S0 [S0]), .val S1]) ?_ (kS_one ?_)
    · exact kS_fld (i := 0) (z := "self") (q := q) (fs := rf S0 []) (e := [.ins q (rf S0 []), .val S1]) (d := .tuple [S0]) kx (by decide +kernel) (by decide +kernel) (by decide +kernel) rfl (oneIns0 rfl) hc0 (kx.na (nR c (.tail _ (.tail _ (.head _))))) (by decide) (x_e kx (by kernel_rfl))
    · exact kS_fld (i := 0) (z := "self") (q := q) (fs := rf S0 [S0]) (e := [.ins q (rf S0 [S0]), .val S1]) (d := S1) kx (by decide +kernel) (by decide +kernel) (by decide +kernel) rfl (oneIns0 rfl) hc0 (kx.na (nR c (.tail _ (.head _)))) (by decide) (x_e kx (by kernel_rfl))
  · refine ⟨[.ins q F2, .val S2], rfl, .inr ⟨rfl, ?_⟩⟩
    refine kS_cons (p1 := false) (p2 := false) (e1 := [.ins q (rf S1 [S0, S1]), .val S2]) ?_ (kS_one ?_)
    · exact kS_fld (i := 0) (z := "self") (q := q) (fs := rf S1 [S0]) (e := [.ins q (rf S1 [S0]), .val S2]) (d := .tuple [S0, S1]) kx (by decide +kernel) (by decide +kernel) (by decide +kernel) rfl (oneIns0 rfl) hc0 (kx.na (nR c (.tail _ (.tail _ (.head _))))) (by decide) (x_e kx (by kernel_rfl))
    · exact kS_fld (i := 0) (z := "self") (q := q) (fs := rf S1 [S0, S1]) (e := [.ins q (rf S1 [S0, S1]), .val S2]) (d := S2) kx (by decide +kernel) (by decide +kernel) (by decide +kernel) rfl (oneIns0 rfl) hc0 (kx.na (nR c (.tail _ (.head _)))) (by decide) (x_e kx (by kernel_rfl))
  · refine ⟨[.ins q F3, .val S3], rfl, .inr ⟨rfl, ?_⟩⟩
    refine kS_cons (p1 := false) (p2 := false) (e1 := [.ins q (rf S2 [S0, S1, S2]), .val S3]) ?_ (kS_one ?_)
    · exact kS_fld (i := 0) (z := "self") (q := q) (fs := rf S2 [S0, S1]) (e := [.ins q (rf S2 [S0, S1]), .val S3]) (d := .tuple [S0, S1, S2]) kx (by decide +kernel) (by decide +kernel) (by decide +kernel) rfl (oneIns0 rfl) hc0 (kx.na (nR c (.tail _ (.tail _ (.head _))))) (by decide) (x_e kx (by kernel_rfl))
    · exact kS_fld (i := 0) (z := "self") (q := q) (fs := rf S2 [S0, S1, S2]) (e := [.ins q (rf S2 [S0, S1, S2]), .val S3]) (d := S3) kx (by decide +kernel) (by decide +kernel) (by decide +kernel) rfl (oneIns0 rfl) hc0 (kx.na (nR c (.tail _ (.head _)))) (by decide) (x_e kx (by kernel_rfl))
  · refine ⟨[.ins q F6, .val S6], rfl, .inr ⟨rfl, ?_⟩⟩
    refine kS_cons (p1 := false) (p2 := false) (e1 := [.ins q (rf S1 [S0, S1]), .val S6]) ?_ (kS_one ?_)
    · exact kS_fld (i := 0) (z := "self") (q := q) (fs := rf S1 [S0]) (e := [.ins q (rf S1 [S0]), .val S6]) (d := .tuple [S0, S1]) kx (by decide +kernel) (by decide +kernel) (by decide +kernel) rfl (oneIns0 rfl) hc0 (kx.na (nR c (.tail _ (.tail _ (.head _))))) (by decide) (x_e kx (by kernel_rfl))
    · exact kS_fld (i := 0) (z := "self") (q := q) (fs := rf S1 [S0, S1]) (e := [.ins q (rf S1 [S0, S1]), .val S6]) (d := S6) kx (by decide +kernel) (by decide +kernel) (by decide +kernel) rfl (oneIns0 rfl) hc0 (kx.na (nR c (.tail _ (.head _)))) (by decide) (x_e kx (by kernel_rfl))
/-- fall -/
def fallT : TabW := [(F0, [fq 1 2], F1, .list [.int 1, .int 3]), (F2, [fq 1 4], F3, .list [.int 1, .int 3]), (F1, [fq 1 2], F6, .list [.int 1, .int 2, .int 3])]
theorem fallR (X : K.In h) (G : h.Ns mainGlobals mg) (c : SaysY fa fn ex K) : Ok w K mg base 122 (He.ma K (CR K) "fall") ["self", "amount"] (spW (U16 w K mg base) (CR K) 2 fun _ fs ds fs' d => (fs, ds, fs', d) ∈ fallT) := by
  obtain ⟨fd, F, hb⟩ := F_fall_Rain c
  obtain ⟨fm, Fm, hm⟩ := movedR (w := w) (mg := mg) (base := base) X G c
  have dh : DefH (U16 w K mg base) 40 121 c_fall_Rain ["self", "amount"] (defScope (cst 102 2)) := defH like16 X G c rfl rfl rfl rfl (by decide +kernel) rfl rfl (by decide)
  refine ⟨fd, fnW dh F (by decide) fun Y kx hr q fs ds fs' d hl ht cl hcl => ?_, hb⟩
  have hc0 : cl.l.lookup 0 = some (CR K) := by rw [hcl]; rfl
  simp only [fallT, List.mem_cons, List.not_mem_nil, or_false, Prod.mk.injEq] at ht
  rcases ht with ⟨rfl, rfl, rfl, rfl⟩ | ⟨rfl, rfl, rfl, rfl⟩ | ⟨rfl, rfl, rfl, rfl⟩
  · refine ⟨[.ins q F1, .val (fq 1 2)], rfl, .inl ?_⟩
    refine kB_cons (p1 := true) (p2 := false) (e1 := [.ins q F0, .val (fq 1 2)]) (x_s kx (by kernel_rfl) rfl (by exact insLe_ins rfl)) ?_
    refine kB_cons (p1 := false) (p2 := true) (e1 := [.ins q F1, .val (fq 1 2)]) (kS_expr (P := Dat (U16 w K mg base) .none) ?_) (kB_ret (x_e kx (by kernel_rfl)))
    exact k_mutO (i := 0) (q := q) (e := [.ins q F0, .val (fq 1 2)]) (fs := F0) (ds := [S1]) (d := .none) (fs' := F1) kx (kx.cls (clsR c).1) (kx.mth (M_moved_Rain c).2) (kx.fo Fm) hr (kx.bd hm) (by decide +kernel) (by decide +kernel) (by decide +kernel) rfl (oneIns0 rfl) hc0 (by decide +kernel) (x_a kx (by kernel_rfl)) rfl (.head _) rfl rfl rfl
  · refine ⟨[.ins q F3, .val (fq 1 4)], rfl, .inl ?_⟩
    refine kB_cons (p1 := true) (p2 := false) (e1 := [.ins q F2, .val (fq 1 4)]) (x_s kx (by kernel_rfl) rfl (by exact insLe_ins rfl)) ?_
    refine kB_cons (p1 := false) (p2 := true) (e1 := [.ins q F3, .val (fq 1 4)]) (kS_expr (P := Dat (U16 w K mg base) .none) ?_) (kB_ret (x_e kx (by kernel_rfl)))
    exact k_mutO (i := 0) (q := q) (e := [.ins q F2, .val (fq 1 4)]) (fs := F2) (ds := [S3]) (d := .none) (fs' := F3) kx (kx.cls (clsR c).1) (kx.mth (M_moved_Rain c).2) (kx.fo Fm) hr (kx.bd hm) (by decide +kernel) (by decide +kernel) (by decide +kernel) rfl (oneIns0 rfl) hc0 (by decide +kernel) (x_a kx (by kernel_rfl)) rfl (.tail _ (.tail _ (.head _))) rfl rfl rfl
  · refine ⟨[.ins q F6, .val (fq 1 2)], rfl, .inl ?_⟩
    refine kB_cons (p1 := true) (p2 := false) (e1 := [.ins q F1, .val (fq 1 2)]) (x_s kx (by kernel_rfl) rfl (by exact insLe_ins rfl)) ?_
    refine kB_cons (p1 := false) (p2 := true) (e1 := [.ins q F6, .val (fq 1 2)]) (kS_expr (P := Dat (U16 w K mg base) .none) ?_) (kB_ret (x_e kx (by kernel_rfl)))
    exact k_mutO (i := 0) (q := q) (e := [.ins q F1, .val (fq 1 2)]) (fs := F1) (ds := [S6]) (d := .none) (fs' := F6) kx (kx.cls (clsR c).1) (kx.mth (M_moved_Rain c).2) (kx.fo Fm) hr (kx.bd hm) (by decide +kernel) (by decide +kernel) (by decide +kernel) rfl (oneIns0 rfl) hc0 (by decide +kernel) (x_a kx (by kernel_rfl)) rfl (.tail _ (.tail _ (.tail _ (.head _)))) rfl rfl rfl
end
end K16
set_option Elab.async false
set_option linter.all false
set_option maxRecDepth 100000
set_option maxHeartbeats 0
/-! The worked examples: more methods of Rain. -/
namespace K16
open PySem PySem.Spec PyProof.Rows L2 PD
section
variable {w : World} {K : PySem.W.Frag} {h : Heap} {mg : Str → Option Value} {base : Heap}
def gateT : TabW := [(F1, [.int 0, .bool true], F2, .bool true)]
theorem set_gateR (X : K.In h) (G : h.Ns mainGlobals mg) (c : SaysY fa fn ex K) : Ok w K mg base 122 (He.ma K (CR K) "set_gate") ["self", "gate", "is_shut"] (spW (U16 w K mg base) (CR K) 3 fun _ fs ds fs' d => (fs, ds, fs', d) ∈ gateT) := by
  obtain ⟨fd, F, hb⟩ := F_set_gate_Rain c
  obtain ⟨fm, Fm, hm⟩ := movedR (w := w) (mg := mg) (base := base) X G c
  have dh : DefH (U16 w K mg base) 40 121 c_set_gate_Rain ["self", "gate", "is_shut"] (defScope (cst 102 5)) := defH like16 X G c rfl rfl rfl rfl (by decide +kernel) rfl rfl (by decide)
  refine ⟨fd, fnW dh F (by decide) fun Y kx hr q fs ds fs' d hl ht cl hcl => ?_, hb⟩
  have hc0 : cl.l.lookup 0 = some (CR K) := by rw [hcl]; rfl
  simp only [gateT, List.mem_cons, List.not_mem_nil, or_false, Prod.mk.injEq] at ht
  obtain ⟨rfl, rfl, rfl, rfl⟩ := ht
  refine ⟨[.ins q F2, .val (.int 0), .val (.bool true), .val (.bool true)], rfl, .inl ?_⟩
  refine kB_cons (p1 := true) (p2 := false) (e1 := [.ins q F1, .val (.int 0), .val (.bool true), .emp]) (x_s kx (by kernel_rfl) rfl (by exact insLe_ins rfl)) ?_
  refine kB_cons (p1 := true) (p2 := false) (e1 := [.ins q F1, .val (.int 0), .val (.bool true), .val (.bool true)]) (x_s kx (by kernel_rfl) rfl (by exact insLe_ins rfl)) ?_
  refine kB_cons (p1 := false) (p2 := true) (e1 := [.ins q F2, .val (.int 0), .val (.bool true), .val (.bool true)]) (kS_expr (P := Dat (U16 w K mg base) .none) ?_) (kB_ret (x_e kx (by kernel_rfl)))
  exact k_mutO (i := 0) (q := q) (e := [.ins q F1, .val (.int 0), .val (.bool true), .val (.bool true)]) (fs := F1) (ds := [S2]) (d := .none) (fs' := F2) kx (kx.cls (clsR c).1) (kx.mth (M_moved_Rain c).2) (kx.fo Fm) hr (kx.bd hm) (by decide +kernel) (by decide +kernel) (by decide +kernel) rfl (oneIns0 rfl) hc0 (by decide +kernel) (x_a kx (by kernel_rfl)) rfl (.tail _ (.head _)) rfl rfl rfl
def shutT : TabW := [(F1, [.int 0], F2, .bool true)]
theorem shutR (X : K.In h) (G : h.Ns mainGlobals mg) (c : SaysY fa fn ex K) : Ok w K mg base 123 (He.ma K (CR K) "shut") ["self", "gate"] (spW (U16 w K mg base) (CR K) 2 fun _ fs ds fs' d => (fs, ds, fs', d) ∈ shutT) := by
  obtain ⟨fd, F, hb⟩ := F_shut_Rain c
  obtain ⟨fm, Fm, hm⟩ := set_gateR (w := w) (mg := mg) (base := base) X G c
  have dh : DefH (U16 w K mg base) 40 122 c_shut_Rain ["self", "gate"] (defScope (cst 102 4)) := defH like16 X G c rfl rfl rfl rfl (by decide +kernel) rfl rfl (by decide)
  refine ⟨fd, fnW dh F (by decide) fun Y kx hr q fs ds fs' d hl ht cl hcl => ?_, hb⟩
  have hc0 : cl.l.lookup 0 = some (CR K) := by rw [hcl]; rfl
  simp only [shutT, List.mem_cons, List.not_mem_nil, or_false, Prod.mk.injEq] at ht
  obtain ⟨rfl, rfl, rfl, rfl⟩ := ht
  refine ⟨[.ins q F2, .val (.int 0)], rfl, .inl (kB_ret ?_)⟩
  exact k_mutO (i := 0) (q := q) (e := [.ins q F1, .val (.int 0)]) (fs := F1) (ds := [.int 0, .bool true]) (d := .bool true) (fs' := F2) kx (kx.cls (clsR c).1) (kx.mth (M_set_gate_Rain c).2) (kx.fo Fm) hr (kx.bd hm) (by decide +kernel) (by decide +kernel) (by decide +kernel) rfl (oneIns0 rfl) hc0 (by decide +kernel) (x_a kx (by kernel_rfl)) rfl (.head _) rfl rfl rfl
def undoT : TabW := [(F3, [], F2, .none), (F2, [], F1, .none)]
theorem undoR (X : K.In h) (G : h.Ns mainGlobals mg) (c : SaysY fa fn ex K) : Ok w K mg base 121 (He.ma K (CR K) "undo") ["self"] (spW (U16 w K mg base) (CR K) 1 fun _ fs ds fs' d => (fs, ds, fs', d) ∈ undoT) := by
  obtain ⟨fd, F, hb⟩ := F_undo_Rain c
  have dh : DefH (U16 w K mg base) 40 120 c_undo_Rain ["self"] (defScope (cst 102 11)) := defH like16 X G c rfl rfl rfl rfl (by decide +kernel) rfl rfl (by decide)
  refine ⟨fd, fnW dh F (by decide) fun Y kx hr q fs ds fs' d hl ht cl hcl => ?_, hb⟩
  have hc0 : cl.l.lookup 0 = some (CR K) := by rw [hcl]; rfl
  simp only [undoT, List.mem_cons, List.not_mem_nil, or_false, Prod.mk.injEq] at ht
  rcases ht with ⟨rfl, rfl, rfl, rfl⟩ | ⟨rfl, rfl, rfl, rfl⟩
  · refine ⟨[.ins q F2], rfl, .inr ⟨rfl, ?_⟩⟩
    refine kS_cons (p1 := true) (p2 := false) (e1 := [.ins q F3]) (x_s kx (by kernel_rfl) rfl (by exact insLe_ins rfl)) ?_
    refine kS_cons (p1 := false) (p2 := false) (e1 := [.ins q (rf S2 [S0, S1, S2])]) ?_ (kS_one ?_)
    · exact kS_fld (i := 0) (z := "self") (q := q) (fs := F3) (e := [.ins q F3]) (d := S2) kx (by decide +kernel) (by decide +kernel) (by decide +kernel) rfl (oneIns0 rfl) hc0 (kx.na (nR c (.tail _ (.head _)))) (by decide) (x_e kx (by kernel_rfl))
    · exact kS_fld (i := 0) (z := "self") (q := q) (fs := rf S2 [S0, S1, S2]) (e := [.ins q (rf S2 [S0, S1, S2])]) (d := .tuple [S0, S1]) kx (by decide +kernel) (by decide +kernel) (by decide +kernel) rfl (oneIns0 rfl) hc0 (kx.na (nR c (.tail _ (.tail _ (.head _))))) (by decide) (x_e kx (by kernel_rfl))
  · refine ⟨[.ins q F1], rfl, .inr ⟨rfl, ?_⟩⟩
    refine kS_cons (p1 := true) (p2 := false) (e1 := [.ins q F2]) (x_s kx (by kernel_rfl) rfl (by exact insLe_ins rfl)) ?_
    refine kS_cons (p1 := false) (p2 := false) (e1 := [.ins q (rf S1 [S0, S1])]) ?_ (kS_one ?_)
    · exact kS_fld (i := 0) (z := "self") (q := q) (fs := F2) (e := [.ins q F2]) (d := S1) kx (by decide +kernel) (by decide +kernel) (by decide +kernel) rfl (oneIns0 rfl) hc0 (kx.na (nR c (.tail _ (.head _)))) (by decide) (x_e kx (by kernel_rfl))
    · exact kS_fld (i := 0) (z := "self") (q := q) (fs := rf S1 [S0, S1]) (e := [.ins q (rf S1 [S0, S1])]) (d := .tuple [S0]) kx (by decide +kernel) (by decide +kernel) (by decide +kernel) rfl (oneIns0 rfl) hc0 (kx.na (nR c (.tail _ (.tail _ (.head _))))) (by decide) (x_e kx (by kernel_rfl))
def fallenT : TabO := [(F6, [], fq 1 1)]
theorem fallenR (X : K.In h) (G : h.Ns mainGlobals mg) (c : SaysY fa fn ex K) : Ok w K mg base 121 (He5.wf K (CR K) "property" "fallen") ["self"] (spO (U16 w K mg base) (CR K) 1 fun _ fs ds d => (fs, ds, d) ∈ fallenT) := by
  obtain ⟨fd, F, hb⟩ := F_fallen_Rain c
  have dh : DefH (U16 w K mg base) 40 120 c_fallen_Rain ["self"] (defScope (cst 102 8)) := defH like16 X G c rfl rfl rfl rfl (by decide +kernel) rfl rfl (by decide)
  exact ⟨fd, fnT dh F (by decide) fun q => List.forall_mem_cons.mpr ⟨by kernel_rfl, fun _ z => nomatch z⟩, hb⟩
def surfT : TabO := [(F2, [], .tuple [fq 3 1, fq 1 1, fq 5 1, fq 2 1, fq 4 1])]
theorem surfacesR (X : K.In h) (G : h.Ns mainGlobals mg) (c : SaysY fa fn ex K) : Ok w K mg base 121 (He5.wf K (CR K) "property" "surfaces") ["self"] (spO (U16 w K mg base) (CR K) 1 fun _ fs ds d => (fs, ds, d) ∈ surfT) := by
  obtain ⟨fd, F, hb⟩ := F_surfaces_Rain c
  have dh : DefH (U16 w K mg base) 40 120 c_surfaces_Rain ["self"] (defScope (cst 102 9)) := defH like16 X G c rfl rfl rfl rfl (by decide +kernel) rfl rfl (by decide)
  exact ⟨fd, fnT dh F (by decide) fun q => List.forall_mem_cons.mpr ⟨by kernel_rfl, fun _ z => nomatch z⟩, hb⟩
def gatesT : TabO := [(F1, [], .tuple [])]
theorem gatesR (X : K.In h) (G : h.Ns mainGlobals mg) (c : SaysY fa fn ex K) : Ok w K mg base 121 (He5.wf K (CR K) "property" "gates") ["self"] (spO (U16 w K mg base) (CR K) 1 fun _ fs ds d => (fs, ds, d) ∈ gatesT) := by
  obtain ⟨fd, F, hb⟩ := F_gates_Rain c
  have dh : DefH (U16 w K mg base) 40 120 c_gates_Rain ["self"] (defScope (cst 102 10)) := defH like16 X G c rfl rfl rfl rfl (by decide +kernel) rfl rfl (by decide)
  exact ⟨fd, fnT dh F (by decide) fun q => List.forall_mem_cons.mpr ⟨by kernel_rfl, fun _ z => nomatch z⟩, hb⟩
def itemRT : TabO := [(F3, [.int 3], fq 5 2)]
theorem itemR (X : K.In h) (G : h.Ns mainGlobals mg) (c : SaysY fa fn ex K) : Ok w K mg base 121 (He.ma K (CR K) "__getitem__") ["self", "column"] (spO (U16 w K mg base) (CR K) 2 fun _ fs ds d => (fs, ds, d) ∈ itemRT) := by
  obtain ⟨fd, F, hb⟩ := F_getitem_Rain c
  have dh : DefH (U16 w K mg base) 40 120 c_getitem_Rain ["self", "column"] (defScope (cst 102 14)) := defH like16 X G c rfl rfl rfl rfl (by decide +kernel) rfl rfl (by decide)
  exact ⟨fd, fnT dh F (by decide) fun q => List.forall_mem_cons.mpr ⟨by kernel_rfl, fun _ z => nomatch z⟩, hb⟩
def inRT : TabO := [(F6, [.int 2], .bool true)]
theorem inR (X : K.In h) (G : h.Ns mainGlobals mg) (c : SaysY fa fn ex K) : Ok w K mg base 121 (He.ma K (CR K) "__contains__") ["self", "value"] (spO (U16 w K mg base) (CR K) 2 fun _ fs ds d => (fs, ds, d) ∈ inRT) := by
  obtain ⟨fd, F, hb⟩ := F_contains_Rain c
  have dh : DefH (U16 w K mg base) 40 120 c_contains_Rain ["self", "value"] (defScope (cst 102 15)) := defH like16 X G c rfl rfl rfl rfl (by decide +kernel) rfl rfl (by decide)
  exact ⟨fd, fnT dh F (by decide) fun q => List.forall_mem_cons.mpr ⟨by kernel_rfl, fun _ z => nomatch z⟩, hb⟩
def lenRT : TabO := [(F6, [], .int 2)]
theorem lenR (X : K.In h) (G : h.Ns mainGlobals mg) (c : SaysY fa fn ex K) : Ok w K mg base 121 (He.ma K (CR K) "__len__") ["self"] (spO (U16 w K mg base) (CR K) 1 fun _ fs ds d => (fs, ds, d) ∈ lenRT) := by
  obtain ⟨fd, F, hb⟩ := F_len_Rain c
  have dh : DefH (U16 w K mg base) 40 120 c_len_Rain ["self"] (defScope (cst 102 16)) := defH like16 X G c rfl rfl rfl rfl (by decide +kernel) rfl rfl (by decide)
  exact ⟨fd, fnT dh F (by decide) fun q => List.forall_mem_cons.mpr ⟨by kernel_rfl, fun _ z => nomatch z⟩, hb⟩
def boolRT : TabO := [(F6, [], .bool false)]
theorem boolR (X : K.In h) (G : h.Ns mainGlobals mg) (c : SaysY fa fn ex K) : Ok w K mg base 121 (He.ma K (CR K) "__bool__") ["self"] (spO (U16 w K mg base) (CR K) 1 fun _ fs ds d => (fs, ds, d) ∈ boolRT) := by
  obtain ⟨fd, F, hb⟩ := F_bool_Rain c
  have dh : DefH (U16 w K mg base) 40 120 c_bool_Rain ["self"] (defScope (cst 102 17)) := defH like16 X G c rfl rfl rfl rfl (by decide +kernel) rfl rfl (by decide)
  exact ⟨fd, fnT dh F (by decide) fun q => List.forall_mem_cons.mpr ⟨by kernel_rfl, fun _ z => nomatch z⟩, hb⟩
end
end K16
set_option linter.all false
set_option maxRecDepth 100000
set_option maxHeartbeats 1000000
/-! The generator's body: a test that is not met, a loop over columns that hands out a text each. -/
namespace PD
open PySem PySem.Spec PyProof.Rows L2
section
variable {X : Cx} {U : Wd} {n : Nat} {C : Ct} {cl : Cl} {pos p p2 p3 p4 : Pos} {a b : Expr}
theorem xs_any (kx : KX X U n C) {st : Stmt} : PS X st (fun E σ H => ∃ e e1, evXS (tab U.Pg n) C st e = .ok (.nx e1, []) ∧ e1.all okS = true ∧ insLe e1 e ∧ tKS U C.O cl true e e1 E σ H) :=
  ⟨fun pins s σ H D I ⟨e, e1, h1, h2, h3, h⟩ => (x_s kx h1 h2 h3).run pins s σ H D I h⟩
theorem xe_any (kx : KX X U n C) : PE X a (fun σ H Q => ∃ e d, evX (tab U.Pg n) C a e = .ok (d, []) ∧ tK U C.O cl true e e (Dat U d) σ H Q) :=
  ⟨fun pins s σ H Q I ⟨e, d, h1, h⟩ => (x_e kx h1).run pins s σ H Q I h⟩
/-- a turn: the column, the word, the ground, the text -/
abbrev Turn4 := Int × D × D × Str
theorem ints_T : ∀ T : List Turn4, ints? (T.map fun t => PyData.int t.1) = some (T.map fun t => t.1)
  | [] => rfl
  | t :: T => by
    show (ints? (T.map fun t => PyData.int t.1)).map (t.1 :: ·) = _
    rw [ints_T T]; rfl
theorem lines_body (kx : KX X U n C) (po : PassesOwn (model X.prog X.w) X.A X.env X.xe) (hco : X.env.scope.isCoroutine = false) (hint : interactive X.env = false) {tst it y : Expr} {rs : List Stmt} {s1 s2 : Stmt} {z : Str} {q : Addr} {fs : List (Str × D)} {only : D} (T : List Turn4)
    (hC : C.O = [0]) (hz : slotOf C.N z = some 2) (hl : locB C z = true) (hs : ∀ x, foldedSetIterable it X.env x = pure x) (hT : T.length < 1000)
    (h0 : evXT (tab U.Pg n) C tst [.ins q fs, .val only, .emp, .emp, .emp] = .ok (.bool false, [])) (hi : evX (tab U.Pg n) C it [.ins q fs, .val only, .emp, .emp, .emp] = .ok (.list (T.map fun t => .int t.1), []))
    (ht : ∀ t ∈ T, ∀ s3 s4 : Sl, evXS (tab U.Pg n) C s1 [.ins q fs, .val only, .val (.int t.1), s3, s4] = .ok (.nx [.ins q fs, .val only, .val (.int t.1), .val t.2.1, s4], []) ∧ evXS (tab U.Pg n) C s2 [.ins q fs, .val only, .val (.int t.1), .val t.2.1, s4] = .ok (.nx [.ins q fs, .val only, .val (.int t.1), .val t.2.1, .val t.2.2.1], []) ∧
      evX (tab U.Pg n) C y [.ins q fs, .val only, .val (.int t.1), .val t.2.1, .val t.2.2.1] = .ok (.str t.2.2.2, [])) :
    ∃ t, GSs X [.If tst rs [] p, .For (.Name z p2) it [s1, s2, .Expr (.Yield (some y) p3) p4] [] pos] t ∧ ∀ D σ H, J U C.O cl [.ins q fs, .val only, .emp, .emp, .emp] σ H → (∀ ys σ' H', Ext U.T none_ H H' → DvAll U.K H' none_ (T.map fun t => .str t.2.2.2) ys → D.nx ys σ' H') → t D [] σ H := by
  obtain ⟨W, G⟩ := kx.gd (fun _ => none)
  obtain ⟨l1, l2⟩ := locB_ok G.toGd hl
  refine ⟨_, gss_cons (gs_ps (kS_ifF (cl := cl) (x_t kx h0) (pss_never (sts := rs)))) (gss_cons (gs_for po kx.calm (pi_list (x_e (cl := cl) kx hi)) (pg_name (i := 2) G.nd (G.slot hz) l1 l2) (gss_cons (gs_ps (xs_any (cl := cl) kx)) (gss_cons (gs_ps (xs_any (cl := cl) kx)) (gss_cons (gs_yield (xe_any (cl := cl) kx) hco hint) gss_nil))) hs) gss_nil), ?_⟩
  intro D σ H j k
  refine ⟨j, fun σ1 H1 j1 k1 x1 => ?_⟩
  refine ⟨j1, fun v H2 j2 k2 x2 hv => ?_⟩
  obtain ⟨a, xs, rfl, lq, hz', dv⟩ := Dv.l hv
  have hxs : xs = (T.map fun t => t.1).map V.int := by
    exact DvAll.ints dv (ints_T T)
  have x12 : Ext U.T none_ H H2 := (x1 rfl).trans (x2 rfl)
  refine ⟨a, rfl, ⟨xs, by rw [kx.K]; exact lq.sq⟩, ?_⟩
  refine for_listG (xs := xs) (fun i ys σ H' => ∃ s2 s3 s4, noIn s2 = true ∧ noIn s3 = true ∧ noIn s4 = true ∧ J U C.O cl [.ins q fs, .val only, s2, s3, s4] σ H' ∧ Ext U.T none_ H2 H' ∧ DvAll U.K H' none_ ((T.take i).map fun t => .str t.2.2.2) ys) ?_ ?_ ?_ ?_
  · exact ⟨.emp, .emp, .emp, rfl, rfl, rfl, j2, .refl, .nil⟩
  · rintro i ys σ3 H3 hi3 ⟨s2, s3, s4, _, _, _, j3, x3, _⟩
    rw [kx.K]
    exact (x3.kp.thru.l a xs lq).sq
  · rintro i x ys σ3 H3 hx ⟨t2, t3, t4, n2, n3, n4, j3, x3, hys⟩
    have hlen : i < T.length := by
      have := (List.getElem?_eq_some_iff.mp hx).1
      rw [hxs] at this
      simpa using this
    rcases hti : T[i] with ⟨c, w, g, tx⟩
    have hx' : x = V.int c := by
      rw [hxs] at hx
      simp only [List.getElem?_map, List.getElem?_eq_getElem hlen, Option.map_some, hti] at hx
      exact (Option.some.inj hx).symm
    subst hx'
    obtain ⟨e1, e2, e3⟩ := ht T[i] (List.getElem_mem hlen) t3 t4
    rw [hti] at e1 e2 e3
    have j4 := j3.setV (i := 2) (d := .int c) (v := .int c) (by rw [hC]; decide) (.ofI c)
    refine ⟨_, _, e1, ?_, insLe_ins ?_, j4, fun σ5 H5 j5 k5 x5 => ?_⟩
    · show (okS _ && (okS _ && (okS _ && (okS _ && (okS t4 && true))))) = true
      have : okS t4 = true := by cases t4 <;> first | rfl | cases n4
      rw [this]; rfl
    · show (noIn _ && (noIn _ && (noIn _ && (noIn t4 && true)))) = true
      rw [n4]; rfl
    refine ⟨_, _, e2, rfl, insLe_ins rfl, j5, fun σ6 H6 j6 k6 x6 => ?_⟩
    refine ⟨by rw [hys.length, List.length_map, List.length_take, sizeLine_eq]; omega, _, _, e3, j6, fun v H7 j7 k7 x7 hv7 => ?_⟩
    refine ⟨_, _, _, rfl, rfl, rfl, j7, ((x3.trans (x5 rfl)).trans (x6 rfl)).trans (x7 rfl), ?_⟩
    have x57 := ((x5 rfl).trans (x6 rfl)).trans (x7 rfl)
    have hys7 : DvAll U.K H7 none_ ((T.take i).map fun t => .str t.2.2.2) ys := DvAll.thru x57.kp.thru _ hys
    have et : (T.take (i + 1)).map (fun t : Turn4 => PyData.str t.2.2.2) = (T.take i).map (fun t : Turn4 => PyData.str t.2.2.2) ++ [.str tx] := by
      rw [List.take_succ_eq_append_getElem hlen, List.map_append, hti]; rfl
    rw [et]
    exact hys7.append (.cons hv7 .nil)
  · rintro ys σ3 H3 ⟨t2, t3, t4, _, _, _, j3, x3, hys⟩
    have hl' : xs.length = T.length := by rw [hxs]; simp
    rw [hl', List.take_length] at hys
    exact k ys σ3 H3 (x12.trans x3) hys
end
end PD
namespace PD
open PySem PySem.Spec PyProof.Rows L2
theorem pasE {X : Cx} : Passes (L2.CX X.prog X.w) X E0 := fun _ _ _ _ _ _ _ ⟨_, _, _, _, _, _, _, _, _, _, _, _, z⟩ => z.elim
section
variable {X : Cx} {U : Wd} {n : Nat} {C : Ct} {cl : Cl} {e e1 e2 : SEnv} {pos p2 : Pos} {a lo hi : Expr} {p1 : Bool} {x z : D} {l u : Int}
/-- a[lo:hi] -/
theorem k_sl (kx : KX X U n C) (ha : PE X a (tK U C.O cl p1 e e1 (Dat U x))) (hl : PE X lo (tK U C.O cl true e1 e1 (Dat U (.int l)))) (hu : PE X hi (tK U C.O cl true e1 e1 (Dat U (.int u)))) (hc : sliceD x (some l) (some u) = some z) : PE X (.Subscript a (.Slice (some lo) (some hi) none p2) pos) (tK U C.O cl p1 e e1 (Dat U z)) := by
  refine (pe_slice sl_D ha (po_some hl) (po_some hu)).imp fun σ H Q ⟨j, k⟩ => ?_
  refine ⟨j, fun v H1 j1 k1 x1 hv => ⟨j1, fun vl H2 j2 k2 x2 hvl => ⟨l, Dv.i hvl, j2, fun vu H3 j3 k3 x3 hvu => ⟨u, Dv.i hvu, none_, x, z, dom_none, ?_, hc, fun v' H' s hv' => ?_⟩⟩⟩⟩
  · rw [kx.K]; exact (((hv.kp k2).kp k3) : Dv U.K H3 none_ x v).di
  · rw [kx.K] at hv'
    have x0 : Ext U.T none_ H1 H' := ((x2 rfl).trans (x3 rfl)).trans (.same s)
    exact k v' H' (j1.ext x0) (k1.trans x0.kp) (fun z => (x1 z).trans x0) hv'
end
end PD
set_option Elab.async false
set_option linter.all false
set_option maxRecDepth 100000
set_option maxHeartbeats 0
/-! The worked examples: lines of Rain. -/
namespace K16
open PySem PySem.Spec PyProof.Rows L2 PD
section
variable {w : World} {K : PySem.W.Frag} {h : Heap} {mg : Str → Option Value} {base : Heap}
def TA : List Turn4 := [(2, .str "dry", .int 5, "2 5 dry 5")]
def TB : List Turn4 := [(0, .str "dry", .int 3, "0 3 dry 3"), (1, .str "wet", .int 0, "1 0 wet 7/3"), (2, .str "wet", .int 2, "2 2 wet 7/3"), (3, .str "wet", .int 1, "3 1 wet 7/3"), (4, .str "dry", .int 4, "4 4 dry 4")]
def RG (fs : List (Str × D)) (ds out : List D) : Prop := (fs = F3 ∧ ds = [.int 2] ∧ out = TA.map fun t => .str t.2.2.2) ∨ (fs = F6 ∧ ds = [.none] ∧ out = TB.map fun t => .str t.2.2.2)
theorem linesR (X : K.In h) (G : h.Ns mainGlobals mg) (c : SaysY fa fn ex K) : ∃ fd, FunD K "lines" "Rain.lines" (defArgs (cst 102 13)) (defBody (cst 102 13)) (defScope (cst 102 13)) [] [("only", .non)] (He.ma K (CR K) "lines") fd ∧
    GFn (U16 w K mg base).P w K mg base 121 (He.ma K (CR K) "lines") fd ["self", "only"] (spG (U16 w K mg base) (CR K) 2 RG) := by
  obtain ⟨fd, F⟩ := F_lines_Rain c
  refine ⟨fd, F, ?_⟩
  have kn := knows (w := w) (base := base) like16 X G c 40
  have fc := fcts (w := w) (base := base) like16 X G c
  refine fnG (U := U16 w K mg base) (n := 40) (k := 120) (C := c_lines_Rain) (Ca := CR K) (ps := ["self", "only"]) kn fc (gScope_of (by decide +kernel)) rfl rfl (by decide) (by decide) (fun _ _ => rfl) F fun Y kx po hco hint q fs ds out hl hR => ?_
  rcases hR with ⟨rfl, rfl, rfl⟩ | ⟨rfl, rfl, rfl⟩
  · exact lines_body (U := U16 w K mg base) (n := 40) kx po hco hint (z := "column") (q := q) (fs := F3) (only := .int 2) TA rfl (by decide +kernel) (by decide +kernel) (fun _ => rfl) (by decide) (by kernel_rfl) (by kernel_rfl) (List.forall_mem_cons.mpr ⟨fun s3 s4 => ⟨by kernel_rfl, by kernel_rfl, by kernel_rfl⟩, fun _ z => nomatch z⟩)
  · exact lines_body (U := U16 w K mg base) (n := 40) kx po hco hint (z := "column") (q := q) (fs := F6) (only := .none) TB rfl (by decide +kernel) (by decide +kernel) (fun _ => rfl) (by decide) (by kernel_rfl) (by kernel_rfl) (List.forall_mem_cons.mpr ⟨fun s3 s4 => ⟨by kernel_rfl, by kernel_rfl, by kernel_rfl⟩, List.forall_mem_cons.mpr ⟨fun s3 s4 => ⟨by kernel_rfl, by kernel_rfl, by kernel_rfl⟩,
      List.forall_mem_cons.mpr ⟨fun s3 s4 => ⟨by kernel_rfl, by kernel_rfl, by kernel_rfl⟩, List.forall_mem_cons.mpr ⟨fun s3 s4 => ⟨by kernel_rfl, by kernel_rfl, by kernel_rfl⟩, List.forall_mem_cons.mpr ⟨fun s3 s4 => ⟨by kernel_rfl, by kernel_rfl, by kernel_rfl⟩, fun _ z => nomatch z⟩⟩⟩⟩⟩)
end
end K16
set_option Elab.async false
set_option linter.all false
set_option maxRecDepth 100000
set_option maxHeartbeats 0
/-! The worked examples: a rain. -/
namespace K16
open PySem PySem.Spec PyProof.Rows L2 PD
section
variable {w : World} {K : PySem.W.Frag} {h : Heap} {mg : Str → Option Value} {base : Heap}
theorem only_ok' {as ds : List D} (hc : only as ds = .ok (.bool true)) : ds = as := by
  unfold only at hc
  split at hc
  · rename_i hb; exact beqDs_eq hb
  · cases hc
theorem only_or' (as ds : List D) : only as ds = .ok (.bool true) ∨ only as ds = .stuck := by
  unfold only
  split
  · exact .inl rfl
  · exact .inr rfl
theorem rain (X : K.In h) (G : h.Ns mainGlobals mg) (c : SaysY fa fn ex K) : Ok w K mg base 135 (He.ga K "_law_rain_right") ["g"] (spP (U16 w K mg base).T (U16 w K mg base).cls (callP P16 45) false K 190 1) := by
  obtain ⟨fd, F, hb⟩ := D__law_rain_right c
  obtain ⟨fi, Fi, hi⟩ := initR (w := w) (mg := mg) (base := base) X G c
  obtain ⟨ff, Ff, hf⟩ := fallR (w := w) (mg := mg) (base := base) X G c
  obtain ⟨fs, Fs, hs⟩ := shutR (w := w) (mg := mg) (base := base) X G c
  obtain ⟨fu, Fu, hu⟩ := undoR (w := w) (mg := mg) (base := base) X G c
  obtain ⟨fl, Fl, hl⟩ := fallenR (w := w) (mg := mg) (base := base) X G c
  obtain ⟨fo, Fo, ho⟩ := surfacesR (w := w) (mg := mg) (base := base) X G c
  obtain ⟨fg, Fg, hg⟩ := gatesR (w := w) (mg := mg) (base := base) X G c
  obtain ⟨ft, Ft, ht⟩ := itemR (w := w) (mg := mg) (base := base) X G c
  obtain ⟨f_n, F_n, h_n⟩ := inR (w := w) (mg := mg) (base := base) X G c
  obtain ⟨f_l, F_l, h_l⟩ := lenR (w := w) (mg := mg) (base := base) X G c
  obtain ⟨f_b, F_b, h_b⟩ := boolR (w := w) (mg := mg) (base := base) X G c
  obtain ⟨fL, FL, gL⟩ := linesR (w := w) (mg := mg) (base := base) X G c
  obtain ⟨ds1, d1, b1⟩ := FunD.binds0 (ps := ["self", "only"]) FL 1 (by decide) rfl fun D doc pm an cdv ct us ks h1 h2 => match us, ks, h1, h2 with | [a], [b], _, _ => ⟨_, _, _, _, _, _, rfl, rfl, rfl⟩
  obtain ⟨mv, b2⟩ := FunD.kbinds0 (ps := ["self", "only"]) FL 1 ["only"] [] (fun us mz zs => us ++ zs) (by decide) (fun q z => nomatch z) (fun r1 r2 r3 => r1.append r3) fun D doc pm an cdv ct us mv ws h1 h2 h3 => match us, mv, ws, h1, h2, h3 with | [a], [], [b], _, _, _ => rfl
  have dh : DefH (U16 w K mg base) 40 134 c__law_rain_right ["g"] (defScope (top 131)) := defH like16 X G c rfl rfl rfl rfl (by decide +kernel) rfl rfl (by decide)
  refine ⟨fd, fnD (m := 44) (call := rainC) dh F [(1, CR K)] (fun Y kx hr ds hlen hcall cl hcl => ?_) (only_or' _) (fun ds => rfl), hb⟩
  have e := only_ok' hcall
  subst e
  have hc1 : cl.l.lookup 1 = some (CR K) := by rw [hcl]; rfl
  have mRain : Y.mg "Rain" = some (.ref (CR K)) := by rw [kx.em]; exact glo_mid X G c (by simp)
  have gRain := kx.gl (x := "Rain") (by decide +kernel)
  have gF : GFn Y.prog Y.w Y.K Y.mg Y.base 121 (He.ma K (CR K) "lines") fL ["self", "only"] (spG (U16 w K mg base) (CR K) 2 RG) := by
    have h1 := kx.eP; have h2 := kx.ew; have h3 := kx.K; have h4 := kx.em; have h5 := kx.eb
    rw [h1, h2, h3, h4, h5]; exact gL
  have cR := kx.cls (clsR c).1
  have kY : Y.K = K := kx.K
  have b2' : KBn Y.K fL ["self", "only"] 1 ["only"] (fun us ws => us ++ ws) (fun vs zs => vs ++ zs) := by rw [kY]; exact b2
  have one1 : ∀ {q : Addr} {fs : List (Str × D)}, oneIns [.val gDat, .ins q fs] 1 := fun k a gs hk => match k, hk with
    | 0, hk => by cases hk
    | 1, _ => rfl
    | k + 2, hk => by cases hk
  have var : ∀ {p : Pos} {q : Addr} {fs : List (Str × D)}, PE Y (.Name "r" p) (tK (U16 w K mg base) c__law_rain_right.O cl true [.val gDat, .ins q fs] [.val gDat, .ins q fs] (Lnd (U16 w K mg base) (CR K) fs)) := fun {p q fs} =>
    k_var (i := 1) kx (by decide +kernel) (by decide +kernel) (by decide +kernel) rfl hc1
  refine ⟨tKR (U16 w K mg base) c__law_rain_right.O cl false [.val gDat, .emp] (Dat (U16 w K mg base) (.bool true)), ?_, fun σ H D j k => ⟨j, fun v H' t' b' _ _ hv => k v H' t' b' hv⟩⟩
  refine kR_setI (i := 1) (p1 := true) (p2 := false) kx (by decide +kernel) (by decide +kernel) (k_makeO (ds := [gDat]) (fs' := F0) kx (kx.mk' (mkR c)) (kx.fo Fi) (hr.mono (by decide)) gRain mRain (kx.bd hi) (x_a kx (by kernel_rfl)) rfl ⟨rfl, rfl⟩ (by decide)) (by decide) (by decide) hc1 rfl fun q => ?_
  refine kR_cons (p1 := false) (p2 := false) (e1 := [.val gDat, .ins q F2]) (kS_ifF (kW_orF (p1 := false) (p2 := false) (e1 := [.val gDat, .ins q F1]) (kT_cmp (p1 := false) (p2 := true) kx (k_mutO (i := 1) (q := q) (e := [.val gDat, .ins q F0]) (fs := F0) (fs' := F1) (ds := [fq 1 2]) (d := .list [.int 1, .int 3]) kx cR (kx.mth (M_fall_Rain c).2) (kx.fo Ff) (hr.mono (by decide)) (kx.bd hf) (by decide +kernel) (by decide +kernel) (by decide +kernel) rfl one1 hc1 (by decide +kernel) (x_a kx (by kernel_rfl)) rfl (.head _) rfl rfl rfl) (x_e (d := .list [.int 1, .int 3]) kx (by kernel_rfl)) (o := .ne) (c := false) (by kernel_rfl) rfl)
    (kW_orF (p1 := false) (p2 := true) (e1 := [.val gDat, .ins q F2]) (kT_cmp (p1 := false) (p2 := true) kx (k_mutO (i := 1) (q := q) (e := [.val gDat, .ins q F1]) (fs := F1) (fs' := F2) (ds := [.int 0]) (d := .bool true) kx cR (kx.mth (M_shut_Rain c).2) (kx.fo Fs) (hr.mono (by decide)) (kx.bd hs) (by decide +kernel) (by decide +kernel) (by decide +kernel) rfl one1 hc1 (by decide +kernel) (x_a kx (by kernel_rfl)) rfl (.head _) rfl rfl rfl) (x_e (d := .bool true) kx (by kernel_rfl)) (o := .isnot) (c := false) (by kernel_rfl) rfl)
      (kW_or1 (kT_cmp (p1 := true) (p2 := true) kx (k_ix (p1 := true) (p2 := true) kx (k_prop (d := .tuple [fq 3 1, fq 1 1, fq 5 1, fq 2 1, fq 4 1]) (fs := F2) kx (kx.fo Fo) (hr.mono (by decide)) (kx.bd ho) cR (kx.prop (P_surfaces_Rain c)) var (fun q => .head _) rfl) (x_e (d := .int 2) kx (by kernel_rfl)) (z := fq 5 1) (by kernel_rfl) rfl) (x_e (d := fq 5 1) kx (by kernel_rfl)) (o := .ne) (c := false) (by kernel_rfl) rfl)))).pt pss_never) ?_
  refine kR_cons (p1 := false) (p2 := false) (e1 := [.val gDat, .ins q F3]) (kS_ifF (kW_orF (p1 := false) (p2 := true) (e1 := [.val gDat, .ins q F3]) (kT_cmp (p1 := false) (p2 := true) kx (k_mutO (i := 1) (q := q) (e := [.val gDat, .ins q F2]) (fs := F2) (fs' := F3) (ds := [fq 1 4]) (d := .list [.int 1, .int 3]) kx cR (kx.mth (M_fall_Rain c).2) (kx.fo Ff) (hr.mono (by decide)) (kx.bd hf) (by decide +kernel) (by decide +kernel) (by decide +kernel) rfl one1 hc1 (by decide +kernel) (x_a kx (by kernel_rfl)) rfl (.tail _ (.head _)) rfl rfl rfl) (x_e (d := .list [.int 1, .int 3]) kx (by kernel_rfl)) (o := .ne) (c := false) (by kernel_rfl) rfl)
    (kW_orF (p1 := true) (p2 := true) (e1 := [.val gDat, .ins q F3]) (kT_cmp (p1 := true) (p2 := true) kx (k_itemO (y := .int 3) (d := fq 5 2) (fs := F3) kx (kx.own (M_getitem_Rain c).1) (kx.fo Ft) (hr.mono (by decide)) (kx.bd ht) var (x_e kx (by kernel_rfl)) (fun q => .head _) (fun _ _ => by with_unfolding_all rfl)) (x_e (d := fq 5 2) kx (by kernel_rfl)) (o := .ne) (c := false) (by kernel_rfl) rfl)
      (kW_or1 (kT_cmp (p1 := true) (p2 := true) kx (k_listGK (fs := F3) (zd := [.int 2]) (out := TA.map fun t => .str t.2.2.2) kx cR (kx.mth (M_lines_Rain c).2) gF (hr.mono (by decide)) b2' (kK_one (x_e kx (by kernel_rfl))) (fun v zs => rfl) var (by decide +kernel) rfl rfl (.inl ⟨rfl, rfl, rfl⟩) pasE (kx.gl (by decide +kernel)) (kx.bl (by decide +kernel)) (by decide +kernel) (by rw [sizeLine_eq]; decide) rfl rfl rfl rfl rfl) (x_e (d := .list [.str "2 5 dry 5"]) kx (by kernel_rfl)) (o := .ne) (c := false) (by kernel_rfl) rfl)))).pt pss_never) ?_
  refine kR_cons (p1 := false) (p2 := false) (e1 := [.val gDat, .ins q F1]) (kS_ifF (kW_orF (p1 := false) (p2 := false) (e1 := [.val gDat, .ins q F2]) (kT_cmp (p1 := false) (p2 := true) kx (k_mutO0 (i := 1) (q := q) (e := [.val gDat, .ins q F3]) (fs := F3) (fs' := F2) (d := .none) kx cR (kx.mth (M_undo_Rain c).2) (kx.fo Fu) (hr.mono (by decide)) (kx.bd hu) (by decide +kernel) (by decide +kernel) (by decide +kernel) rfl one1 hc1 (by decide +kernel) (.head _) rfl) (x_e (d := .none) kx (by kernel_rfl)) (o := .isnot) (c := false) (by kernel_rfl) rfl)
    (kW_orF (p1 := false) (p2 := true) (e1 := [.val gDat, .ins q F1]) (kT_cmp (p1 := false) (p2 := true) kx (k_mutO0 (i := 1) (q := q) (e := [.val gDat, .ins q F2]) (fs := F2) (fs' := F1) (d := .none) kx cR (kx.mth (M_undo_Rain c).2) (kx.fo Fu) (hr.mono (by decide)) (kx.bd hu) (by decide +kernel) (by decide +kernel) (by decide +kernel) rfl one1 hc1 (by decide +kernel) (.tail _ (.head _)) rfl) (x_e (d := .none) kx (by kernel_rfl)) (o := .isnot) (c := false) (by kernel_rfl) rfl)
      (kW_or1 (kT_cmp (p1 := true) (p2 := true) kx (k_prop (d := .tuple []) (fs := F1) kx (kx.fo Fg) (hr.mono (by decide)) (kx.bd hg) cR (kx.prop (P_gates_Rain c)) var (fun q => .head _) rfl) (x_e (d := .tuple []) kx (by kernel_rfl)) (o := .ne) (c := false) (by kernel_rfl) rfl)))).pt pss_never) ?_
  refine kR_cons (p1 := false) (p2 := true) (e1 := [.val gDat, .ins q F6]) (kS_ifF (kW_orF (p1 := false) (p2 := true) (e1 := [.val gDat, .ins q F6]) (kT_cmp (p1 := false) (p2 := true) kx (k_mutO (i := 1) (q := q) (e := [.val gDat, .ins q F1]) (fs := F1) (fs' := F6) (ds := [fq 1 2]) (d := .list [.int 1, .int 2, .int 3]) kx cR (kx.mth (M_fall_Rain c).2) (kx.fo Ff) (hr.mono (by decide)) (kx.bd hf) (by decide +kernel) (by decide +kernel) (by decide +kernel) rfl one1 hc1 (by decide +kernel) (x_a kx (by kernel_rfl)) rfl (.tail _ (.tail _ (.head _))) rfl rfl rfl) (x_e (d := .list [.int 1, .int 2, .int 3]) kx (by kernel_rfl)) (o := .ne) (c := false) (by kernel_rfl) rfl)
    (kW_or1 (kT_cmp (p1 := true) (p2 := true) kx (k_prop (d := fq 1 1) (fs := F6) kx (kx.fo Fl) (hr.mono (by decide)) (kx.bd hl) cR (kx.prop (P_fallen_Rain c)) var (fun q => .head _) rfl) (x_e (d := fq 1 1) kx (by kernel_rfl)) (o := .ne) (c := false) (by kernel_rfl) rfl))).pt pss_never) ?_
  refine kR_cons (p1 := true) (p2 := true) (e1 := [.val gDat, .ins q F6]) (kS_ifF (kT_cmp (p1 := true) (p2 := true) kx (k_sl (p1 := true) (z := .list [.str "1 0 wet 7/3", .str "2 2 wet 7/3"]) (l := 1) (u := 3) kx (k_listG (fs := F6) (dvs := [.non]) (dvd := [.none]) (out := TB.map fun t => .str t.2.2.2) kx cR (kx.mth (M_lines_Rain c).2) gF (hr.mono (by decide)) (kx.bd b1) d1 (fun H => .cons .ofN .nil) var (by decide +kernel) rfl (.inr ⟨rfl, rfl, rfl⟩) pasE (kx.gl (by decide +kernel)) (kx.bl (by decide +kernel)) (by decide +kernel) (by rw [sizeLine_eq]; decide) (by decide) (by decide) rfl) (x_e kx (by kernel_rfl)) (x_e kx (by kernel_rfl)) (by kernel_rfl)) (x_e (d := .list [.str "1 0 wet 7/3", .str "2 2 wet 7/3"]) kx (by kernel_rfl)) (o := .ne) (c := false) (by kernel_rfl) rfl) pss_never) ?_
  refine kR_of (e1 := [.val gDat, .ins q F6]) (kB_ret (k_andT (p1 := true) (p2 := true) (e1 := [.val gDat, .ins q F6]) (k_inO (p1 := true) (p2 := true) (fs := F6) (y := .int 2) (c := true) kx (kx.own (M_contains_Rain c).1) (kx.fo F_n) (hr.mono (by decide)) (kx.bd h_n) (x_e kx (by kernel_rfl)) var (fun q => .head _) rfl)
    (k_andT (p1 := true) (p2 := true) (e1 := [.val gDat, .ins q F6]) (k_cmp (p1 := true) (p2 := true) (o := .eq) (c := true) kx (k_lenO (i := 2) (fs := F6) kx (kx.own (M_len_Rain c).1) (kx.fo F_l) (hr.mono (by decide)) (kx.bd h_l) var (fun q => .head _) (by decide) (kx.gl (by decide +kernel)) (kx.bl (by decide +kernel)) (by decide +kernel) rfl) (x_e (d := .int 2) kx (by kernel_rfl)) (by kernel_rfl) rfl)
      (k_one (k_not (c := false) (k_boolO (fs := F6) kx (kx.own (M_bool_Rain c).1) (kx.fo F_b) (hr.mono (by decide)) (kx.bd h_b) var (fun q => .head _) (kx.gl (by decide +kernel)) (kx.bl (by decide +kernel)) (by decide +kernel) rfl))))))
end
end K16
set_option Elab.async false
set_option linter.all false
set_option maxRecDepth 100000
set_option maxHeartbeats 0
/-! The worked examples: more methods of Land. -/
namespace K16
open PySem PySem.Spec PyProof.Rows L2 PD
section
variable {w : World} {K : PySem.W.Frag} {h : Heap} {mg : Str → Option Value} {base : Heap}
def k2Dat : D := .tuple [.tuple [.int 4, .int 1, .int 2, .int 0, .int 3], .tuple [], r04]
def k5Dat : D := .tuple [.tuple [.int 3, .int 0, .int 2, .int 1, .int 4, .int 5], .tuple [], r04]
def k3Dat : D := .tuple [.tuple [.int 0, .int 1, .int 0], .tuple [], .tuple [.int 0, .int 2]]
def kvDat : D := .tuple [.tuple [.int 2, .int 0, .int 0, .int 0, .int 2], .tuple [], r04]
def fr (a b : Int) : D := .tuple [.int a, .int b]
theorem sourceL (X : K.In h) (G : h.Ns mainGlobals mg) (c : SaysY fa fn ex K) : Ok w K mg base 121 (He5.wf K (CL K) "property" "source") ["self"] (spO (U16 w K mg base) (CL K) 1 fun _ fs ds d => fs = kf d ∧ ds = []) := by
  obtain ⟨fd, F, hb⟩ := F_source_Land c
  have dh : DefH (U16 w K mg base) 40 120 c_source_Land ["self"] (defScope (cst 122 3)) := defH like16 X G c rfl rfl rfl rfl (by decide +kernel) rfl rfl (by decide)
  refine ⟨fd, fnO dh F (by decide) fun X kx hr q fs ds d hl ⟨e1, e2⟩ => ?_, hb⟩
  subst e1 e2
  exact ⟨_, kB_plain (m := .cons (.ret (.fld 0 "kept")) .nil) (B := []) kx (by kernel_rfl) rfl⟩
def callT : TabO := [(kf hDat, [fr 1 1], .list [fr 3 1, fr 7 3, fr 7 3, fr 7 3, fr 4 1]), (kf k2Dat, [fr 1 1], .list [fr 4 1, fr 7 3, fr 7 3, fr 7 3, fr 3 1])]
theorem callL (X : K.In h) (G : h.Ns mainGlobals mg) (c : SaysY fa fn ex K) : Ok w K mg base 121 (He.ma K (CL K) "__call__") ["self", "amount"] (spO (U16 w K mg base) (CL K) 2 fun _ fs ds d => (fs, ds, d) ∈ callT) := by
  obtain ⟨fd, F, hb⟩ := F_call_Land c
  have dh : DefH (U16 w K mg base) 40 120 c_call_Land ["self", "amount"] (defScope (cst 122 10)) := defH like16 X G c rfl rfl rfl rfl (by decide +kernel) rfl rfl (by decide)
  exact ⟨fd, fnT dh F (by decide) fun q => List.forall_mem_cons.mpr ⟨by kernel_rfl, List.forall_mem_cons.mpr ⟨by kernel_rfl, fun _ z => nomatch z⟩⟩, hb⟩
def itemT : TabO := [(kf hDat, [.int 4], .int 4)]
theorem itemL (X : K.In h) (G : h.Ns mainGlobals mg) (c : SaysY fa fn ex K) : Ok w K mg base 121 (He.ma K (CL K) "__getitem__") ["self", "column"] (spO (U16 w K mg base) (CL K) 2 fun _ fs ds d => (fs, ds, d) ∈ itemT) := by
  obtain ⟨fd, F, hb⟩ := F_getitem_Land c
  have dh : DefH (U16 w K mg base) 40 120 c_getitem_Land ["self", "column"] (defScope (cst 122 11)) := defH like16 X G c rfl rfl rfl rfl (by decide +kernel) rfl rfl (by decide)
  exact ⟨fd, fnT dh F (by decide) fun q => List.forall_mem_cons.mpr ⟨by kernel_rfl, fun _ z => nomatch z⟩, hb⟩
def lenT : TabO := [(kf hDat, [], .int 5), (kf k5Dat, [], .int 6)]
theorem lenL (X : K.In h) (G : h.Ns mainGlobals mg) (c : SaysY fa fn ex K) : Ok w K mg base 121 (He.ma K (CL K) "__len__") ["self"] (spO (U16 w K mg base) (CL K) 1 fun _ fs ds d => (fs, ds, d) ∈ lenT) := by
  obtain ⟨fd, F, hb⟩ := F_len_Land c
  have dh : DefH (U16 w K mg base) 40 120 c_len_Land ["self"] (defScope (cst 122 12)) := defH like16 X G c rfl rfl rfl rfl (by decide +kernel) rfl rfl (by decide)
  exact ⟨fd, fnT dh F (by decide) fun q => List.forall_mem_cons.mpr ⟨by kernel_rfl, List.forall_mem_cons.mpr ⟨by kernel_rfl, fun _ z => nomatch z⟩⟩, hb⟩
def inT : TabO := [(kf hDat, [.int 4], .bool true), (kf hDat, [.int 5], .bool false)]
theorem inL (X : K.In h) (G : h.Ns mainGlobals mg) (c : SaysY fa fn ex K) : Ok w K mg base 121 (He.ma K (CL K) "__contains__") ["self", "value"] (spO (U16 w K mg base) (CL K) 2 fun _ fs ds d => (fs, ds, d) ∈ inT) := by
  obtain ⟨fd, F, hb⟩ := F_contains_Land c
  have dh : DefH (U16 w K mg base) 40 120 c_contains_Land ["self", "value"] (defScope (cst 122 13)) := defH like16 X G c rfl rfl rfl rfl (by decide +kernel) rfl rfl (by decide)
  exact ⟨fd, fnT dh F (by decide) fun q => List.forall_mem_cons.mpr ⟨by kernel_rfl, List.forall_mem_cons.mpr ⟨by kernel_rfl, fun _ z => nomatch z⟩⟩, hb⟩
def boolT : TabO := [(kf hDat, [], .bool true), (kf k3Dat, [], .bool false)]
theorem boolL (X : K.In h) (G : h.Ns mainGlobals mg) (c : SaysY fa fn ex K) : Ok w K mg base 121 (He.ma K (CL K) "__bool__") ["self"] (spO (U16 w K mg base) (CL K) 1 fun _ fs ds d => (fs, ds, d) ∈ boolT) := by
  obtain ⟨fd, F, hb⟩ := F_bool_Land c
  have dh : DefH (U16 w K mg base) 40 120 c_bool_Land ["self"] (defScope (cst 122 14)) := defH like16 X G c rfl rfl rfl rfl (by decide +kernel) rfl rfl (by decide)
  exact ⟨fd, fnT dh F (by decide) fun q => List.forall_mem_cons.mpr ⟨by kernel_rfl, List.forall_mem_cons.mpr ⟨by kernel_rfl, fun _ z => nomatch z⟩⟩, hb⟩
/-! methods that make a land -/
def mulT : TabN := [(kf hDat, [.tuple [.int 2, .int 3, .bool false]], kf gDat)]
theorem land_mg (X : K.In h) (G : h.Ns mainGlobals mg) (c : SaysY fa fn ex K) : mg "Land" = some (.ref (CL K)) := glo_mid X G c (by simp)
theorem mulL (X : K.In h) (G : h.Ns mainGlobals mg) (c : SaysY fa fn ex K) : Ok w K mg base 123 (He.ma K (CL K) "__mul__") ["self", "gate"] (spN (U16 w K mg base) (CL K) (CL K) 2 fun _ fs ds fs' => (fs, ds, fs') ∈ mulT) := by
  obtain ⟨fd, F, hb⟩ := F_mul_Land c
  obtain ⟨fd0, F0, hb0⟩ := initL (w := w) (mg := mg) (base := base) X G c
  have dh : DefH (U16 w K mg base) 40 122 c_mul_Land ["self", "gate"] (defScope (cst 122 6)) := defH like16 X G c rfl rfl rfl rfl (by decide +kernel) rfl rfl (by decide)
  refine ⟨fd, fnN dh F (by decide) fun Y kx hr q fs ds fs' hl ht => ?_, hb⟩
  have e := List.mem_singleton.mp ht
  cases e
  refine ⟨_, kB_cons (x_s (e1 := [.ins q (kf hDat), .val (.tuple [.int 2, .int 3, .bool false]), .val hts, .val (.tuple []), .val r04]) kx (by kernel_rfl) rfl (by exact insLe_ins rfl)) (kB_cons (x_s (e1 := [.ins q (kf hDat), .val (.tuple [.int 2, .int 3, .bool false]), .val hts, .val (.tuple []), .val r04]) kx (by kernel_rfl) rfl (by exact insLe_ins rfl))
    (kB_ret (k_weak (k_makeO (ds := [hts, .tuple [.tuple [.int 2, .int 3, .bool false]], r04]) kx (kx.K ▸ mkL c) (kx.fo F0) hr (kx.gl (by decide +kernel)) (by rw [kx.em]; exact land_mg X G c) (kx.K ▸ hb0) (x_a kx (by kernel_rfl)) rfl ⟨_, _, _, rfl, rfl, by kernel_rfl⟩ (by decide)))))⟩
end
end K16
set_option Elab.async false
set_option linter.all false
set_option maxRecDepth 100000
set_option maxHeartbeats 0
/-! The worked examples: the last methods of Land. -/
namespace K16
open PySem PySem.Spec PyProof.Rows L2 PD
section
variable {w : World} {K : PySem.W.Frag} {h : Heap} {mg : Str → Option Value} {base : Heap}
def addT : TabN := [(kf hDat, [.int 5], kf k5Dat)]
theorem addL (X : K.In h) (G : h.Ns mainGlobals mg) (c : SaysY fa fn ex K) : Ok w K mg base 123 (He.ma K (CL K) "__add__") ["self", "height"] (spN (U16 w K mg base) (CL K) (CL K) 2 fun _ fs ds fs' => (fs, ds, fs') ∈ addT) := by
  obtain ⟨fd, F, hb⟩ := F_add_Land c
  obtain ⟨fd0, F0, hb0⟩ := initL (w := w) (mg := mg) (base := base) X G c
  have dh : DefH (U16 w K mg base) 40 122 c_add_Land ["self", "height"] (defScope (cst 122 4)) := defH like16 X G c rfl rfl rfl rfl (by decide +kernel) rfl rfl (by decide)
  refine ⟨fd, fnN dh F (by decide) fun Y kx hr q fs ds fs' hl ht => ?_, hb⟩
  have e := List.mem_singleton.mp ht
  cases e
  refine ⟨_, kB_cons (x_s (e1 := [.ins q (kf hDat), .val (.int 5), .val (.tuple [.int 3, .int 0, .int 2, .int 1, .int 4, .int 5]), .val (.tuple []), .val r04]) kx (by kernel_rfl) rfl (by exact insLe_ins rfl))
    (kB_ret (k_weak (k_makeO (ds := [.tuple [.int 3, .int 0, .int 2, .int 1, .int 4, .int 5], .tuple [], r04]) kx (kx.K ▸ mkL c) (kx.fo F0) hr (kx.gl (by decide +kernel)) (by rw [kx.em]; exact land_mg X G c) (kx.K ▸ hb0) (x_a kx (by kernel_rfl)) rfl ⟨_, _, _, rfl, rfl, by kernel_rfl⟩ (by decide))))⟩
def subT : TabN := [(kf hDat, [.int 0], kf hDat)]
theorem subL (X : K.In h) (G : h.Ns mainGlobals mg) (c : SaysY fa fn ex K) : Ok w K mg base 123 (He.ma K (CL K) "__sub__") ["self", "count"] (spN (U16 w K mg base) (CL K) (CL K) 2 fun _ fs ds fs' => (fs, ds, fs') ∈ subT) := by
  obtain ⟨fd, F, hb⟩ := F_sub_Land c
  obtain ⟨fd0, F0, hb0⟩ := initL (w := w) (mg := mg) (base := base) X G c
  have dh : DefH (U16 w K mg base) 40 122 c_sub_Land ["self", "count"] (defScope (cst 122 5)) := defH like16 X G c rfl rfl rfl rfl (by decide +kernel) rfl rfl (by decide)
  refine ⟨fd, fnN dh F (by decide) fun Y kx hr q fs ds fs' hl ht => ?_, hb⟩
  have e := List.mem_singleton.mp ht
  cases e
  refine ⟨_, kB_cons (x_s (e1 := [.ins q (kf hDat), .val (.int 0), .val hts, .val (.tuple []), .val r04]) kx (by kernel_rfl) rfl (by exact insLe_ins rfl))
    (kB_ret (k_weak (k_makeO (ds := [hts, .tuple [], r04]) kx (kx.K ▸ mkL c) (kx.fo F0) hr (kx.gl (by decide +kernel)) (by rw [kx.em]; exact land_mg X G c) (kx.K ▸ hb0) (x_a kx (by kernel_rfl)) rfl ⟨_, _, _, rfl, rfl, by kernel_rfl⟩ (by decide))))⟩
def invT : TabN := [(kf hDat, [], kf k2Dat)]
theorem invL (X : K.In h) (G : h.Ns mainGlobals mg) (c : SaysY fa fn ex K) : Ok w K mg base 123 (He.ma K (CL K) "__invert__") ["self"] (spN (U16 w K mg base) (CL K) (CL K) 1 fun _ fs ds fs' => (fs, ds, fs') ∈ invT) := by
  obtain ⟨fd, F, hb⟩ := F_invert_Land c
  obtain ⟨fd0, F0, hb0⟩ := initL (w := w) (mg := mg) (base := base) X G c
  have dh : DefH (U16 w K mg base) 40 122 c_invert_Land ["self"] (defScope (cst 122 7)) := defH like16 X G c rfl rfl rfl rfl (by decide +kernel) rfl rfl (by decide)
  refine ⟨fd, fnN dh F (by decide) fun Y kx hr q fs ds fs' hl ht => ?_, hb⟩
  have e := List.mem_singleton.mp ht
  cases e
  refine ⟨_, kB_cons (x_s (e1 := [.ins q (kf hDat), .val hts, .val (.tuple []), .val r04, .emp, .emp, .emp, .emp, .emp]) kx (by kernel_rfl) rfl (by exact insLe_ins rfl))
    (kB_cons (x_s (e1 := [.ins q (kf hDat), .val hts, .val (.tuple []), .val r04, .val (.int 4), .emp, .emp, .emp, .emp]) kx (by kernel_rfl) rfl (by exact insLe_ins rfl))
    (kB_cons (x_s (e1 := [.ins q (kf hDat), .val hts, .val (.tuple []), .val r04, .val (.int 4), .val (.tuple []), .emp, .emp, .emp]) kx (by kernel_rfl) rfl (by exact insLe_ins rfl))
    (kB_ret (k_weak (k_makeO (ds := [.tuple [.int 4, .int 1, .int 2, .int 0, .int 3], .tuple [], r04]) kx (kx.K ▸ mkL c) (kx.fo F0) hr (kx.gl (by decide +kernel)) (by rw [kx.em]; exact land_mg X G c) (kx.K ▸ hb0) (x_a kx (by kernel_rfl)) rfl ⟨_, _, _, rfl, rfl, by kernel_rfl⟩ (by decide))))))⟩
theorem valleyL (X : K.In h) (G : h.Ns mainGlobals mg) (c : SaysY fa fn ex K) : Ok w K mg base 123 (He5.wf K (CL K) "classmethod" "valley") ["cls", "depth", "width"] (spV (U16 w K mg base) (CL K) 3 fun ds fs' => ds = [.int 2, .int 3] ∧ fs' = kf kvDat) := by
  obtain ⟨fd, F, hb⟩ := F_valley_Land c
  obtain ⟨fd0, F0, hb0⟩ := initL (w := w) (mg := mg) (base := base) X G c
  have dh : DefH (U16 w K mg base) 40 122 c_valley_Land ["cls", "depth", "width"] (defScope (cst 122 2)) := defH like16 X G c rfl rfl rfl rfl (by decide +kernel) rfl rfl (by decide)
  refine ⟨fd, fnV dh F (mkL c) F0 (by decide) hb0 (by decide +kernel) (by decide +kernel) (by decide +kernel) rfl rfl fun ds fs' hl ⟨e1, e2⟩ => ?_, hb⟩
  subst e1 e2
  exact ⟨[.tuple [.int 2, .int 0, .int 0, .int 0, .int 2], .tuple [], r04], by kernel_rfl, by kernel_rfl, rfl, _, _, _, rfl, rfl, by kernel_rfl⟩
end
end K16
set_option Elab.async false
set_option linter.all false
set_option maxRecDepth 100000
set_option maxHeartbeats 0
/-! The worked examples: columns that stay dry, facts, values and texts. -/
namespace K16
open PySem PySem.Spec PyProof.Rows L2 PD
section
variable {w : World} {K : PySem.W.Frag} {h : Heap} {mg : Str → Option Value} {base : Heap}
theorem only_ok {as ds : List D} (hc : only as ds = .ok (.bool true)) : ds = as := by
  unfold only at hc
  split at hc
  · rename_i hb; exact beqDs_eq hb
  · cases hc
theorem only_or (as ds : List D) : only as ds = .ok (.bool true) ∨ only as ds = .stuck := by
  unfold only
  split
  · exact .inl rfl
  · exact .inr rfl
theorem rest (X : K.In h) (G : h.Ns mainGlobals mg) (c : SaysY fa fn ex K) : Ok w K mg base 135 (He.ga K "_law_rest_right") ["h", "g", "q", "w", "v"] (spP (U16 w K mg base).T (U16 w K mg base).cls (callP P16 45) false K 189 5) := by
  obtain ⟨fd, F, hb⟩ := D__law_rest_right c
  obtain ⟨fi, Fi, hi⟩ := initL (w := w) (mg := mg) (base := base) X G c
  obtain ⟨fs, Fs, hs⟩ := sourceL (w := w) (mg := mg) (base := base) X G c
  obtain ⟨fc, Fc, hc⟩ := callL (w := w) (mg := mg) (base := base) X G c
  obtain ⟨ft, Ft, ht⟩ := itemL (w := w) (mg := mg) (base := base) X G c
  obtain ⟨fl, Fl, hl⟩ := lenL (w := w) (mg := mg) (base := base) X G c
  obtain ⟨fn_, Fn_, hn_⟩ := inL (w := w) (mg := mg) (base := base) X G c
  obtain ⟨fb, Fb, hb2⟩ := boolL (w := w) (mg := mg) (base := base) X G c
  obtain ⟨fm, Fm, hm⟩ := mulL (w := w) (mg := mg) (base := base) X G c
  obtain ⟨f_a, F_a, h_a⟩ := addL (w := w) (mg := mg) (base := base) X G c
  obtain ⟨f_s, F_s, h_s⟩ := subL (w := w) (mg := mg) (base := base) X G c
  obtain ⟨f_i, F_i, h_i⟩ := invL (w := w) (mg := mg) (base := base) X G c
  obtain ⟨f_v, F_v, h_v⟩ := valleyL (w := w) (mg := mg) (base := base) X G c
  have dh : DefH (U16 w K mg base) 40 134 c__law_rest_right ["h", "g", "q", "w", "v"] (defScope (top 130)) := defH like16 X G c rfl rfl rfl rfl (by decide +kernel) rfl rfl (by decide)
  refine ⟨fd, fnD (m := 44) (call := restC) dh F [(5, CL K)] (fun Y kx hr ds hlen hcall cl hcl => ?_) (only_or _) (fun ds => rfl), hb⟩
  have e := only_ok hcall
  subst e
  have hc5 : cl.l.lookup 5 = some (CL K) := by rw [hcl]; rfl
  have kK : Y.K = K := kx.K
  have gLand := kx.gl (x := "Land") (by decide +kernel)
  have mLand : Y.mg "Land" = some (.ref (CL K)) := by rw [kx.em]; exact land_mg X G c
  let e0 : SEnv := [.val hDat, .val gDat, .val qDat, .val wDat, .val vDat, .emp]
  have pl : ∀ {st : Stmt}, evXS (tab P16 40) c__law_rest_right st e0 = .ok (.nx e0, []) → PS Y st (tKS (U16 w K mg base) c__law_rest_right.O cl true e0 e0) := fun hs => x_s (cl := cl) kx hs rfl (by exact rfl)
  have one : ∀ {p : Pos} {q : Addr}, PE Y (.Name "one" p) (tK (U16 w K mg base) c__law_rest_right.O cl true [.val hDat, .val gDat, .val qDat, .val wDat, .val vDat, .ins q (kf hDat)] [.val hDat, .val gDat, .val qDat, .val wDat, .val vDat, .ins q (kf hDat)] (Lnd (U16 w K mg base) (CL K) (kf hDat))) := fun {p q} =>
    k_var (i := 5) kx (by decide +kernel) (by decide +kernel) (by decide +kernel) rfl hc5
  refine ⟨tKR (U16 w K mg base) c__law_rest_right.O cl true e0 (Dat (U16 w K mg base) (.bool true)), ?_, fun σ H D j k => ⟨j, fun v H' t' b' _ _ hv => k v H' t' b' hv⟩⟩
  refine kR_cons (pl (by kernel_rfl)) (kR_cons (pl (by kernel_rfl)) (kR_cons (pl (by kernel_rfl)) (kR_cons (pl (by kernel_rfl)) (kR_cons (pl (by kernel_rfl)) (kR_cons (pl (by kernel_rfl)) (kR_cons (pl (by kernel_rfl)) (kR_cons (pl (by kernel_rfl)) ?_)))))))
  refine kR_setI (i := 5) kx (by decide +kernel) (by decide +kernel) (k_makeO (ds := [hts, .tuple [], r04]) kx (kx.mk' (mkL c)) (kx.fo Fi) (hr.mono (by decide)) gLand mLand (kx.bd hi) (x_a kx (by kernel_rfl)) rfl ⟨_, _, _, rfl, rfl, by kernel_rfl⟩ (by decide)) (by decide) (by decide) hc5 rfl fun q => ?_
  refine kR_cons (kS_ifF (kW_orF (kT_cmp kx (k_prop kx (kx.fo Fs) (hr.mono (by decide)) (kx.bd hs) (kx.cls (clsL c).1) (kx.prop (P_source_Land c)) (k_binO (y := .tuple [.int 2, .int 3, .bool false]) kx (kx.opm (O_Mult c)) (kx.fo Fm) (hr.mono (by decide)) (kx.bd hm) one (x_e (d := .tuple [.int 2, .int 3, .bool false]) kx (by kernel_rfl)) (fun _ => List.mem_singleton.mpr rfl)) (fun _ => ⟨rfl, rfl⟩) rfl) (x_e (d := gDat) kx (by kernel_rfl)) (o := .ne) (c := false) (by kernel_rfl) rfl)
    (kW_orF (kT_cmp kx (k_ix kx (k_callO (ds := [fr 1 1]) kx (kx.co (M_call_Land c).1) (kx.fr Fc hc) (hr.mono (by decide)) one (x_a kx (by kernel_rfl)) rfl (fun _ => .head _) rfl) (x_e (d := .int 1) kx (by kernel_rfl)) (z := fr 7 3) (by kernel_rfl) rfl) (x_e (d := fr 7 3) kx (by kernel_rfl)) (o := .ne) (c := false) (by kernel_rfl) rfl)
      (kW_or1 (kT_cmp kx (k_ix kx (k_callO (ds := [fr 1 1]) kx (kx.co (M_call_Land c).1) (kx.fr Fc hc) (hr.mono (by decide)) (k_invO kx (kx.own (M_invert_Land c).1) (kx.fo F_i) (hr.mono (by decide)) (kx.bd h_i) one (fun _ => List.mem_singleton.mpr rfl)) (x_a kx (by kernel_rfl)) rfl (fun _ => .tail _ (.head _)) rfl) (x_e (d := .int 3) kx (by kernel_rfl)) (z := fr 7 3) (by kernel_rfl) rfl) (x_e (d := fr 7 3) kx (by kernel_rfl)) (o := .ne) (c := false) (by kernel_rfl) rfl)))).pt pss_never) ?_
  refine kR_cons (kS_ifF (kW_orF (kT_cmp kx (k_itemO (y := .int 4) (d := .int 4) kx (kx.own (M_getitem_Land c).1) (kx.fo Ft) (hr.mono (by decide)) (kx.bd ht) one (x_e kx (by kernel_rfl)) (fun _ => List.mem_singleton.mpr rfl) (fun _ _ => by with_unfolding_all rfl)) (x_e (d := .int 4) kx (by kernel_rfl)) (o := .ne) (c := false) (by kernel_rfl) rfl)
    (kW_orF (kT_cmp kx (k_lenO (i := 6) kx (kx.own (M_len_Land c).1) (kx.fo Fl) (hr.mono (by decide)) (kx.bd hl) (k_binO (y := .int 5) (fs' := kf k5Dat) kx (kx.opm (O_Add c)) (kx.fo F_a) (hr.mono (by decide)) (kx.bd h_a) one (x_e kx (by kernel_rfl)) (fun _ => List.mem_singleton.mpr rfl)) (fun _ => .tail _ (.head _)) (by decide) (kx.gl (by decide +kernel)) (kx.bl (by decide +kernel)) (by decide +kernel) rfl) (x_e (d := .int 6) kx (by kernel_rfl)) (o := .ne) (c := false) (by kernel_rfl) rfl)
    (kW_orF (kT_cmp kx (k_lenO (i := 5) kx (kx.own (M_len_Land c).1) (kx.fo Fl) (hr.mono (by decide)) (kx.bd hl) (k_binO (y := .int 0) (fs' := kf hDat) kx (kx.opm (O_Sub c)) (kx.fo F_s) (hr.mono (by decide)) (kx.bd h_s) one (x_e kx (by kernel_rfl)) (fun _ => List.mem_singleton.mpr rfl)) (fun _ => .head _) (by decide) (kx.gl (by decide +kernel)) (kx.bl (by decide +kernel)) (by decide +kernel) rfl) (x_e (d := .int 5) kx (by kernel_rfl)) (o := .ne) (c := false) (by kernel_rfl) rfl)
    (kW_orF (kT_notInO (y := .int 4) (c := true) kx (kx.own (M_contains_Land c).1) (kx.fo Fn_) (hr.mono (by decide)) (kx.bd hn_) (x_e kx (by kernel_rfl)) one (fun _ => .head _) rfl)
    (kW_orF (kT_inO (y := .int 5) (c := false) kx (kx.own (M_contains_Land c).1) (kx.fo Fn_) (hr.mono (by decide)) (kx.bd hn_) (x_e kx (by kernel_rfl)) one (fun _ => .tail _ (.head _)) rfl)
    (kW_or1 (kT_not (kT_val (c := true) (k_boolO kx (kx.own (M_bool_Land c).1) (kx.fo Fb) (hr.mono (by decide)) (kx.bd hb2) one (fun _ => .head _) (kx.gl (by decide +kernel)) (kx.bl (by decide +kernel)) (by decide +kernel) rfl) rfl)))))))).pt pss_never) ?_
  refine kR_cons (kS_ifF (kW_orF (kT_val (c := false) (k_boolO kx (kx.own (M_bool_Land c).1) (kx.fo Fb) (hr.mono (by decide)) (kx.bd hb2) (k_weak (k_makeO (ds := [.tuple [.int 0, .int 1, .int 0], .tuple [], .tuple [.int 0, .int 2]]) (fs' := kf k3Dat) kx (kx.mk' (mkL c)) (kx.fo Fi) (hr.mono (by decide)) gLand mLand (kx.bd hi) (x_a kx (by kernel_rfl)) rfl ⟨_, _, _, rfl, rfl, by kernel_rfl⟩ (by decide))) (fun _ => .tail _ (.head _)) (kx.gl (by decide +kernel)) (kx.bl (by decide +kernel)) (by decide +kernel) rfl) rfl)
    (kW_or1 (kT_cmp kx (k_prop (d := kvDat) (fs := kf kvDat) kx (kx.fo Fs) (hr.mono (by decide)) (kx.bd hs) (kx.cls (clsL c).1) (kx.prop (P_source_Land c)) (k_cmethO (ds := [.int 2, .int 3]) kx (kx.crd (V_valley c).1) (kx.cmt (V_valley c).2) (kx.fr F_v h_v) (hr.mono (by decide)) gLand mLand (x_a kx (by kernel_rfl)) rfl ⟨rfl, rfl⟩ (by decide) rfl rfl rfl) (fun _ => ⟨rfl, rfl⟩) rfl) (x_e (d := kvDat) kx (by kernel_rfl)) (o := .ne) (c := false) (by kernel_rfl) rfl))).pt pss_never) ?_
  exact kR_of (kB_ret (x_e kx (by kernel_rfl)))
end
end K16
set_option Elab.async false
set_option linter.all false
set_option maxRecDepth 100000
set_option maxHeartbeats 0
/-! The worked examples: the plain law. -/
namespace K16
open PySem PySem.Spec PyProof.Rows L2 PD
theorem fn_law : P16.fn 191 = some dr_law.fn := by kernel_rfl
theorem plain (ns : List Int) : callP P16 46 191 [.list (ns.map PyData.int)] = .ok (.bool true) := by kernel_rfl
end K16
set_option Elab.async false
set_option linter.all false
set_option maxRecDepth 100000
set_option maxHeartbeats 0
/-! The worked examples: the law. -/
namespace K16
open PySem PySem.Spec PyProof.Rows L2 PD
section
variable {w : World} {K : PySem.W.Frag} {h : Heap} {mg : Str → Option Value} {base : Heap}
theorem lk_app {x : Str} {v : Nat × Nat × Bool × Bool} : ∀ {l m : Fns}, (l ++ m).lookup x = some v → l.lookup x = some v ∨ m.lookup x = some v
  | [], m, h => .inr h
  | (y, u) :: l, m, h => by
    rw [List.cons_append, List.lookup_cons] at h
    rw [List.lookup_cons]
    split at h
    · rename_i e; left; exact h
    · rename_i e; exact lk_app h
theorem knowsL (X : K.In h) (G : h.Ns mainGlobals mg) (c : SaysY fa fn ex K) (X2 : K.In base) (G2 : base.Ns mainGlobals mg) : (U16 w K mg base).knows 45 fnsL := by
  have kn := knows (w := w) (base := base) like16 X G c 45
  have d1 : (U16 w K mg base).has 45 "_law_rest_right" 189 5 false := by
    obtain ⟨fd, F, hb⟩ := rest (w := w) (base := base) X G c
    obtain ⟨fd', F', hb'⟩ := D__law_rest_right c
    exact ⟨_, fd, _, F, glo_mid X G c (by simp), F'.kp, hb⟩
  have d2 : (U16 w K mg base).has 45 "_law_rain_right" 190 1 false := by
    obtain ⟨fd, F, hb⟩ := rain (w := w) (base := base) X G c
    obtain ⟨fd', F', hb'⟩ := D__law_rain_right c
    exact ⟨_, fd, _, F, glo_mid X G c (by simp), F'.kp, hb⟩
  refine ⟨fun x f np new e => ?_, fun x f np new e => ?_⟩
  · rcases lk_app (show (fns ++ _).lookup x = _ from e) with e | e
    · exact kn.p x f np new e
    · have := lookup_memE e
      simp only [fe, List.mem_cons, List.not_mem_nil, or_false, Prod.mk.injEq] at this
      rcases this with ⟨rfl, rfl, rfl, _, rfl⟩ | ⟨rfl, rfl, rfl, _, rfl⟩
      · exact d1
      · exact d2
  · rcases lk_app (show (fns ++ _).lookup x = _ from e) with e | e
    · exact kn.b x f np new e
    · have := lookup_memE e
      simp only [fe, List.mem_cons, List.not_mem_nil, or_false, Prod.mk.injEq] at this
      rcases this with ⟨_, _, _, z, _⟩ | ⟨_, _, _, z, _⟩ <;> cases z
theorem law_fn (X : K.In h) (G : h.Ns mainGlobals mg) (c : SaysY fa fn ex K) : ∃ fd : FuncData, (∀ (s : Shared) (v : Value), BindsTo s fd ⟨[v], []⟩ [("script", v)]) ∧ mg "law" = some (.ref (He.ga K "law")) ∧ ∀ base : Heap, K.In base → base.Ns mainGlobals mg →
    FnOk (PySem.Challenge.rw_anyrain_k16_worked_examples).prog w K mg base (L2N.CX (PySem.Challenge.rw_anyrain_k16_worked_examples).prog w) (3 * 46) (He.ga K "law") fd ["script"] (spP [] (clsOf K ens0) (callP P16 46) false K 191 1) := by
  have hbl : BindE "law" (top 132) ["script"] := fun _ _ _ _ _ _ us hl => match us, hl with | [_], _ => rfl
  obtain ⟨fd, F, _⟩ := D_law c
  have lk := lawOk
  simp only [Bool.and_eq_true] at lk
  refine ⟨fd, fun s v => FunD.bindsA (ps := ["script"]) F hbl s [v] rfl, glo_mid X G c (by simp), fun base hb1 hb2 => ?_⟩
  exact law_okN (U := U16 w K mg base) (n := 45) (r := dr_law) (knowsL X G c hb1 hb2) (fcts like16 X G c) F rfl lk.1 lk.2 rfl fn_law rfl rfl
end
end K16
open PySem PySem.W PySem.Calls PyProof.Rows in
theorem K16.holds : PySem.Challenge.rw_anyrain_k16_worked_examples.Holds := by
  w_on; o_law
  refine HandSHeadRun.head_any (r := OpenLaw.row PySem.Challenge.rw_anyrain_k16_worked_examples) (q := view (OpenLaw.row PySem.Challenge.rw_anyrain_k16_worked_examples).prog [132]) (H := K16.hk) (ob := K16.ob) (M := 12000) (loose := K16.loose) (d := HandSHeadRun.topDef (OpenLaw.row PySem.Challenge.rw_anyrain_k16_worked_examples).prog 132) (kwd := []) K16.ob_eq
    (by kernel_rfl) (fun s => by kernel_rfl) K16.run (by kernel_rfl) (by kernel_rfl) (by kernel_rfl) (by rfl) (by first | assumption | decide +kernel) (by decide +kernel) ⟨rfl, rfl, rfl, rfl, rfl, by decide +kernel⟩ ?hw ?hc
  case hw => w_witness2
  case hc =>
    refine LamX.walk_ofTsE (l := PySem.Challenge.rw_anyrain_k16_worked_examples) (n := 63) (k := 3 * 46) (x := "script") (CX := fun w => L2N.CX (PySem.Challenge.rw_anyrain_k16_worked_examples).prog w) rfl (by decide) (by kernel_rfl) ((show L2.Room 153 callerA from ⟨rfl, by decide, by decide⟩).mono (by omega)) ?F ?X
    case F =>
      intro w mg fa h Y G hmg0
      obtain ⟨K, KX, c⟩ := Y
      have hmg : mg ("law" : PySem.Str) = some (.ref fa) := by
        have e : (HandSHeadRun.topDef (OpenLaw.row PySem.Challenge.rw_anyrain_k16_worked_examples).prog 132).name = ("law" : PySem.Str) := by kernel_rfl
        rw [← e]
        exact hmg0
      obtain ⟨fd, hb, hm, hF⟩ := K16.law_fn KX G c
      have e := hmg.symm.trans hm
      cases e
      refine ⟨K, KX, fd, [], _, fun p hp => ?_, fun p hp => ?_, fun p hp => ?_, hb, fun H a ns hl hbits hT hS => PD.sp_law (U := K16.U16 w K mg h) (n := 45) (T := []) (K16.plain ns) (fun p hp => ?_) hS (Nat.le_trans hl (by decide)), fun base hb1 hb2 _ => hF base hb1 hb2⟩
      · cases hp
      · cases hp
      · cases hp
      · cases hp
    case X =>
      intro w H s e s' ⟨a, B, H', cls, d, _, _, _, _, _, _, _, z⟩
      exact z
open PySem PySem.W PyProof.Rows
theorem PySem.Challenge.cw_anyrain_k16_worked_examples_holds : PySem.Challenge.rw_anyrain_k16_worked_examples.Holds :=
  K16.holds
