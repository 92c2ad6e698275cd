import PyProof.Rows.All
import Wide.All
import OpenK.AllK
import Wide.FinOn
import KE.KStateDown
import KE.KExcInit
import KE.KExcSuper
import KE.GoesRaise
import Lean
import HandS.ForMost
import HandS.ForExc
import HandS.Evl
import HandS.Steps
import HandS.Slots
import HandS.Property
import HandS.Defaults
import HandS.IsInst
import HandS.ExcField
import HandS.ExcIs
import HandS.ExcInit
import HandS.TupAny
import HandS.Strs
import HandS.SetFor
import HandS.SortInts
import HandS.RaiseMore
import HandS.Style
import HandS.More
import HandS.Codes
import HandS.Zip
import HandS.HeadHook1
import HandS.HeadHook2
import HandS.HeadHook3
import HandS.HeadEnd
import HandS.Head0
import HandS.Head1
import HandS.Head2
import HandS.ExcSuper
import HandS.MakeKwOnly
import KE.GoesNew
import KE.KUnpackStar
import HandS.Text
import HandS.SlotsVar
import HandS.ForSpec
import HandS.Walk
import HandS.List
import HandS.Dict
import KE.IntTextLaws
import KE.GoesComp
import HandS.Exc
import HandS.Comp
import HandS.ExcOwn
import HandS.ReplaceLit
import PyProof.WalksMore
import PyProof.StrBlock2
import HandS.TupSets
import KE.SortData
import HandS.ReplaceList
import PyProof.StrWalks
import PySem.Challenge.RW_oldmap_k49_whole_wrong_texts_located
section PartFa
set_option Elab.async false
set_option linter.all false
set_option maxRecDepth 100000
set_option maxHeartbeats 4000000
/-! The facts of the top: what the program's text has left, by names. -/
namespace Om
open PySem PySem.Spec PyProof.Rows L2 He
abbrev Frg : Type := PySem.W.Frag
abbrev prg : Program := PySem.Challenge.pw_oldmap_k49_whole_wrong_texts_located
def top (i : Nat) : Stmt := prg.main.body.getD i (.Pass ⟨0, 0, 0, 0⟩)
/-- a def: where it stands, its names, its statement in the text -/
structure DD where
  at_ : Frg → Addr
  name : Str
  qual : Str
  st : Stmt
abbrev FW : Type := Option (Str × Str × Arguments × FuncBody × Scope × Addr × List Str × Addr)
def fdOf (K : Frg) (a : Addr) : FuncData := match K.lookup a with
  | some ⟨_, _, .func fd, _⟩ => fd
  | _ => default
def fwOf (K : Frg) (a : Addr) : FW := match K.lookup a with
  | some ⟨_, _, .func fd, _⟩ => some (fd.name, fd.qualname, fd.params, fd.body, fd.scope, fd.globals, fd.closure.map (·.1), fd.builtins)
  | _ => none
def DD.val (cl : List Str) (d : DD) : FW := some (d.name, d.qual, defArgs d.st, .stmts (defBody d.st), defScope d.st, mainGlobals, cl, builtinsNs)
def isNonV : Value → Bool
  | .none => true
  | _ => false
def DD.ok (K : Frg) (d : DD) : Bool := PySem.W.keepIn K (.ref (d.at_ K)) && (match K.lookup (d.at_ K) with
  | some ⟨_, _, .func fd, _⟩ => PySem.W.codeIn K fd.code d.qual && isNonV fd.defaults
  | _ => false)
theorem DD.funD {K : Frg} {d : DD} (e : fwOf K (d.at_ K) = d.val []) (c : d.ok K = true) : FunD K d.name d.qual (defArgs d.st) (defBody d.st) (defScope d.st) [] [] (d.at_ K) (fdOf K (d.at_ K)) := by
  obtain ⟨kp, c2⟩ := ba c
  unfold fwOf at e
  cases q : K.lookup (d.at_ K) with
  | none => rw [q] at c2; cases c2
  | some o =>
    obtain ⟨oc, od, dt, osl⟩ := o
    rw [q] at c2 e
    cases dt with
    | func fd =>
      have hf : fdOf K (d.at_ K) = fd := by unfold fdOf; rw [q]
      rw [hf]
      obtain ⟨n1, n2, n3, n4, n5, n6, n7, n8, n9, n10, n11, n12, n13, n14, n15⟩ := fd
      have e2 : (some (n1, n2, n3, n4, n5, n6, n7.map (·.1), n15) : FW) = some (d.name, d.qual, defArgs d.st, .stmts (defBody d.st), defScope d.st, mainGlobals, [], builtinsNs) := e
      simp only [Option.some.injEq, Prod.mk.injEq, List.map_eq_nil_iff] at e2
      obtain ⟨h1, h2, h3, h4, h5, h6, h7, h8⟩ := e2
      subst h1 h2 h3 h4 h5 h6 h7 h8
      obtain ⟨k1, k2⟩ := ba (show (PySem.W.codeIn K n13 d.qual && isNonV n8) = true from c2)
      have k3 : n8 = .none := by cases n8 <;> first | rfl | cases k2
      subst k3
      exact ⟨⟨oc, od, _, n9, n10, n11, n12, n13, n14, osl, rfl, q, k1, .inl ⟨rfl, rfl⟩, .inl rfl⟩, kp⟩
    | _ => cases c2
/-! ### addresses -/
/-- a property's getter -/
def pg (K : Frg) (C f : Str) : Addr := match PySem.W.recIn K (ma K (ga K C) f) "property" with
  | some (.ref g :: _) => g
  | _ => 0
/-- the cell of a def's closure -/
def cellOf (K : Frg) (a : Addr) : Addr := match (fdOf K a).closure with
  | (_, c) :: _ => c
  | _ => 0
/-- a def's code object -/
def codeAt (K : Frg) (a : Addr) : Addr := match (fdOf K a).code with
  | .ref c => c
  | _ => 0
/-- the tuple that FORMS holds at a key -/
def frmAt (K : Frg) (z : Str) : Addr := match PySem.W.nsIn K (ga K "FORMS") z with
  | some (some (.ref a)) => a
  | _ => 0
def tupAt (K : Frg) (a : Addr) (vs : List V) : Bool := match K.lookup a with
  | some ⟨.type c, od, .seq its _, _⟩ => od.isNone && (decide (c = "tuple") && (decide (its.size ≤ sizeLine) && relAll vs its.toList))
  | _ => false
theorem tupAt_ok {K : Frg} {a : Addr} {vs : List V} (h : tupAt K a vs = true) (H : Hp) : SqT K H a vs := by
  unfold tupAt at h
  cases q : K.lookup a with
  | none => rw [q] at h; cases h
  | some o =>
    obtain ⟨oc, od, dt, osl⟩ := o
    rw [q] at h
    cases oc with
    | type c =>
      cases dt with
      | seq its n =>
        obtain ⟨_, h⟩ := ba (show (od.isNone && (decide (c = "tuple") && (decide (its.size ≤ sizeLine) && relAll vs its.toList))) = true from h)
        obtain ⟨h1, h2⟩ := ba h
        obtain ⟨h3, h4⟩ := ba h2
        exact .inr ⟨_, its, n, q, congrArg Value.type (of_decide_eq_true h1), rfl, of_decide_eq_true h3, relAll_ok h4⟩
      | _ => cases h
    | _ => cases dt <;> cases h
theorem tupAt_ty {K : Frg} {a : Addr} {vs : List V} (h : tupAt K a vs = true) : ∃ o, K.lookup a = some o ∧ o.cls = .type "tuple" ∧ o.dict = none := by
  unfold tupAt at h
  cases q : K.lookup a with
  | none => rw [q] at h; cases h
  | some o =>
    obtain ⟨oc, od, dt, osl⟩ := o
    rw [q] at h
    cases oc with
    | type c =>
      cases dt with
      | seq its n =>
        obtain ⟨h0, h⟩ := ba (show (od.isNone && (decide (c = "tuple") && (decide (its.size ≤ sizeLine) && relAll vs its.toList))) = true from h)
        obtain ⟨h1, h2⟩ := ba h
        refine ⟨_, rfl, congrArg Value.type (of_decide_eq_true h1), ?_⟩
        cases od with
        | none => rfl
        | some _ => cases h0
      | _ => cases h
    | _ => cases dt <;> cases h

abbrev s_is_number : Stmt := top 12
abbrev s_is_rising : Stmt := top 26
abbrev s_are_signs : Stmt := top 27
abbrev s_are_turns : Stmt := top 28
abbrev s_is_range : Stmt := top 29
abbrev s_is_instruction : Stmt := top 30
abbrev s_is_number_word : Stmt := top 41
abbrev s_is_sign_word : Stmt := top 42
abbrev s_lines_of : Stmt := top 44
abbrev s_read_island : Stmt := top 45
abbrev s_read_begin : Stmt := top 46
abbrev s_parse_map : Stmt := top 47
abbrev s__law_mix : Stmt := top 49
abbrev s__law_next : Stmt := top 50
abbrev s__law_alike : Stmt := top 51
abbrev s__law_rows : Stmt := top 52
abbrev s__law_sign : Stmt := top 53
abbrev s__law_cells : Stmt := top 54
abbrev s__law_on : Stmt := top 55
abbrev s__law_line : Stmt := top 56
abbrev s__law_shore : Stmt := top 57
abbrev s__law_steps : Stmt := top 58
abbrev s__law_behind : Stmt := top 59
abbrev s__law_begin : Stmt := top 60
abbrev s__law_final : Stmt := top 61
abbrev s__law_signs : Stmt := top 62
abbrev s__law_turns : Stmt := top 63
abbrev s__law_one : Stmt := top 64
abbrev s__law_drawn : Stmt := top 65
abbrev s__law_text_of : Stmt := top 66
abbrev s__law_parts : Stmt := top 67
abbrev s__law_is_number : Stmt := top 68
abbrev s__law_is_signs : Stmt := top 69
abbrev s__law_part_at : Stmt := top 70
abbrev s__law_row_at : Stmt := top 71
abbrev s__law_begin_at : Stmt := top 72
abbrev s__law_island_at : Stmt := top 73
abbrev s__law_read : Stmt := top 74
abbrev s__law_wrong_index : Stmt := top 75
abbrev s__law_bent : Stmt := top 76
abbrev s__law_seen : Stmt := top 77
abbrev s_law : Stmt := top 78
abbrev s_Island_init : Stmt := inClass (top 13) 0
abbrev s_Map_init : Stmt := inClass (top 33) 0
abbrev s_Line_init : Stmt := inClass (top 43) 1
abbrev s_Line_fail : Stmt := inClass (top 43) 2
abbrev s_Line_is_over : Stmt := inClass (top 43) 3
abbrev s_Line_take : Stmt := inClass (top 43) 4
abbrev s_Line_take_word : Stmt := inClass (top 43) 5
abbrev s_Line_take_number : Stmt := inClass (top 43) 6
abbrev s_Line_take_signs : Stmt := inClass (top 43) 7
abbrev s_Line_take_part : Stmt := inClass (top 43) 8
abbrev s_Line_take_instruction : Stmt := inClass (top 43) 9
abbrev s_Line_end : Stmt := inClass (top 43) 10
abbrev s_Island_rows : Stmt := inClass (top 13) 1
abbrev s_Map_island : Stmt := inClass (top 33) 1
abbrev s_Map_signs : Stmt := inClass (top 33) 2
abbrev s_Map_facings : Stmt := inClass (top 33) 3
abbrev s_Map_instructions : Stmt := inClass (top 33) 4
abbrev s_InvalidText_init : Stmt := inClass (top 6) 0
abbrev s_InvalidMap_init : Stmt := inClass (top 4) 0
def d_is_number : DD := ⟨fun K => ga K "is_number", "is_number", "is_number", s_is_number⟩
def d_is_rising : DD := ⟨fun K => ga K "is_rising", "is_rising", "is_rising", s_is_rising⟩
def d_are_signs : DD := ⟨fun K => ga K "are_signs", "are_signs", "are_signs", s_are_signs⟩
def d_are_turns : DD := ⟨fun K => ga K "are_turns", "are_turns", "are_turns", s_are_turns⟩
def d_is_range : DD := ⟨fun K => ga K "is_range", "is_range", "is_range", s_is_range⟩
def d_is_instruction : DD := ⟨fun K => ga K "is_instruction", "is_instruction", "is_instruction", s_is_instruction⟩
def d_is_number_word : DD := ⟨fun K => ga K "is_number_word", "is_number_word", "is_number_word", s_is_number_word⟩
def d_is_sign_word : DD := ⟨fun K => ga K "is_sign_word", "is_sign_word", "is_sign_word", s_is_sign_word⟩
def d_lines_of : DD := ⟨fun K => ga K "lines_of", "lines_of", "lines_of", s_lines_of⟩
def d_read_island : DD := ⟨fun K => ga K "read_island", "read_island", "read_island", s_read_island⟩
def d_read_begin : DD := ⟨fun K => ga K "read_begin", "read_begin", "read_begin", s_read_begin⟩
def d_parse_map : DD := ⟨fun K => ga K "parse_map", "parse_map", "parse_map", s_parse_map⟩
def d__law_mix : DD := ⟨fun K => ga K "_law_mix", "_law_mix", "_law_mix", s__law_mix⟩
def d__law_next : DD := ⟨fun K => ga K "_law_next", "_law_next", "_law_next", s__law_next⟩
def d__law_alike : DD := ⟨fun K => ga K "_law_alike", "_law_alike", "_law_alike", s__law_alike⟩
def d__law_rows : DD := ⟨fun K => ga K "_law_rows", "_law_rows", "_law_rows", s__law_rows⟩
def d__law_sign : DD := ⟨fun K => ga K "_law_sign", "_law_sign", "_law_sign", s__law_sign⟩
def d__law_cells : DD := ⟨fun K => ga K "_law_cells", "_law_cells", "_law_cells", s__law_cells⟩
def d__law_on : DD := ⟨fun K => ga K "_law_on", "_law_on", "_law_on", s__law_on⟩
def d__law_line : DD := ⟨fun K => ga K "_law_line", "_law_line", "_law_line", s__law_line⟩
def d__law_shore : DD := ⟨fun K => ga K "_law_shore", "_law_shore", "_law_shore", s__law_shore⟩
def d__law_steps : DD := ⟨fun K => ga K "_law_steps", "_law_steps", "_law_steps", s__law_steps⟩
def d__law_behind : DD := ⟨fun K => ga K "_law_behind", "_law_behind", "_law_behind", s__law_behind⟩
def d__law_begin : DD := ⟨fun K => ga K "_law_begin", "_law_begin", "_law_begin", s__law_begin⟩
def d__law_final : DD := ⟨fun K => ga K "_law_final", "_law_final", "_law_final", s__law_final⟩
def d__law_signs : DD := ⟨fun K => ga K "_law_signs", "_law_signs", "_law_signs", s__law_signs⟩
def d__law_turns : DD := ⟨fun K => ga K "_law_turns", "_law_turns", "_law_turns", s__law_turns⟩
def d__law_one : DD := ⟨fun K => ga K "_law_one", "_law_one", "_law_one", s__law_one⟩
def d__law_drawn : DD := ⟨fun K => ga K "_law_drawn", "_law_drawn", "_law_drawn", s__law_drawn⟩
def d__law_text_of : DD := ⟨fun K => ga K "_law_text_of", "_law_text_of", "_law_text_of", s__law_text_of⟩
def d__law_parts : DD := ⟨fun K => ga K "_law_parts", "_law_parts", "_law_parts", s__law_parts⟩
def d__law_is_number : DD := ⟨fun K => ga K "_law_is_number", "_law_is_number", "_law_is_number", s__law_is_number⟩
def d__law_is_signs : DD := ⟨fun K => ga K "_law_is_signs", "_law_is_signs", "_law_is_signs", s__law_is_signs⟩
def d__law_part_at : DD := ⟨fun K => ga K "_law_part_at", "_law_part_at", "_law_part_at", s__law_part_at⟩
def d__law_row_at : DD := ⟨fun K => ga K "_law_row_at", "_law_row_at", "_law_row_at", s__law_row_at⟩
def d__law_begin_at : DD := ⟨fun K => ga K "_law_begin_at", "_law_begin_at", "_law_begin_at", s__law_begin_at⟩
def d__law_island_at : DD := ⟨fun K => ga K "_law_island_at", "_law_island_at", "_law_island_at", s__law_island_at⟩
def d__law_read : DD := ⟨fun K => ga K "_law_read", "_law_read", "_law_read", s__law_read⟩
def d__law_wrong_index : DD := ⟨fun K => ga K "_law_wrong_index", "_law_wrong_index", "_law_wrong_index", s__law_wrong_index⟩
def d__law_bent : DD := ⟨fun K => ga K "_law_bent", "_law_bent", "_law_bent", s__law_bent⟩
def d__law_seen : DD := ⟨fun K => ga K "_law_seen", "_law_seen", "_law_seen", s__law_seen⟩
def d_law : DD := ⟨fun K => ga K "law", "law", "law", s_law⟩
def d_Island_init : DD := ⟨fun K => ma K (ga K "Island") "__init__", "__init__", "Island.__init__", s_Island_init⟩
def d_Map_init : DD := ⟨fun K => ma K (ga K "Map") "__init__", "__init__", "Map.__init__", s_Map_init⟩
def d_Line_init : DD := ⟨fun K => ma K (ga K "Line") "__init__", "__init__", "Line.__init__", s_Line_init⟩
def d_Line_fail : DD := ⟨fun K => ma K (ga K "Line") "fail", "fail", "Line.fail", s_Line_fail⟩
def d_Line_is_over : DD := ⟨fun K => ma K (ga K "Line") "is_over", "is_over", "Line.is_over", s_Line_is_over⟩
def d_Line_take : DD := ⟨fun K => ma K (ga K "Line") "take", "take", "Line.take", s_Line_take⟩
def d_Line_take_word : DD := ⟨fun K => ma K (ga K "Line") "take_word", "take_word", "Line.take_word", s_Line_take_word⟩
def d_Line_take_number : DD := ⟨fun K => ma K (ga K "Line") "take_number", "take_number", "Line.take_number", s_Line_take_number⟩
def d_Line_take_signs : DD := ⟨fun K => ma K (ga K "Line") "take_signs", "take_signs", "Line.take_signs", s_Line_take_signs⟩
def d_Line_take_part : DD := ⟨fun K => ma K (ga K "Line") "take_part", "take_part", "Line.take_part", s_Line_take_part⟩
def d_Line_take_instruction : DD := ⟨fun K => ma K (ga K "Line") "take_instruction", "take_instruction", "Line.take_instruction", s_Line_take_instruction⟩
def d_Line_end : DD := ⟨fun K => ma K (ga K "Line") "end", "end", "Line.end", s_Line_end⟩
def d_Island_rows : DD := ⟨fun K => pg K "Island" "rows", "rows", "Island.rows", s_Island_rows⟩
def d_Map_island : DD := ⟨fun K => pg K "Map" "island", "island", "Map.island", s_Map_island⟩
def d_Map_signs : DD := ⟨fun K => pg K "Map" "signs", "signs", "Map.signs", s_Map_signs⟩
def d_Map_facings : DD := ⟨fun K => pg K "Map" "facings", "facings", "Map.facings", s_Map_facings⟩
def d_Map_instructions : DD := ⟨fun K => pg K "Map" "instructions", "instructions", "Map.instructions", s_Map_instructions⟩
def d_InvalidText_init : DD := ⟨fun K => ma K (ga K "InvalidText") "__init__", "__init__", "InvalidText.__init__", s_InvalidText_init⟩
def d_InvalidMap_init : DD := ⟨fun K => ma K (ga K "InvalidMap") "__init__", "__init__", "InvalidMap.__init__", s_InvalidMap_init⟩
def fns0 : List DD := [d_is_number, d_is_rising, d_are_signs, d_are_turns, d_is_range, d_is_instruction, d_is_number_word, d_is_sign_word, d_lines_of, d_read_island, d_read_begin, d_parse_map, d__law_mix, d__law_next, d__law_alike, d__law_rows, d__law_sign, d__law_cells, d__law_on, d__law_line]
def fns1 : List DD := [d__law_shore, d__law_steps, d__law_behind, d__law_begin, d__law_final, d__law_signs, d__law_turns, d__law_one, d__law_drawn, d__law_text_of, d__law_parts, d__law_is_number, d__law_is_signs, d__law_part_at, d__law_row_at, d__law_begin_at, d__law_island_at, d__law_read, d__law_wrong_index, d__law_bent]
def fns2 : List DD := [d__law_seen, d_law, d_Island_init, d_Map_init, d_Line_init, d_Line_fail, d_Line_is_over, d_Line_take, d_Line_take_word, d_Line_take_number, d_Line_take_signs, d_Line_take_part, d_Line_take_instruction, d_Line_end, d_Island_rows, d_Map_island, d_Map_signs, d_Map_facings, d_Map_instructions]
def fns : List DD := fns0 ++ fns1 ++ fns2
def xfns : List DD := [d_InvalidText_init, d_InvalidMap_init]
def fas0 : List Fa := [.glo "is_number", .glo "is_rising", .glo "are_signs", .glo "are_turns", .glo "is_range", .glo "is_instruction", .glo "is_number_word", .glo "is_sign_word", .glo "lines_of", .glo "read_island", .glo "read_begin", .glo "parse_map", .glo "_law_mix", .glo "_law_next", .glo "_law_alike", .glo "_law_rows", .glo "_law_sign", .glo "_law_cells", .glo "_law_on", .glo "_law_line", .glo "_law_shore", .glo "_law_steps", .glo "_law_behind", .glo "_law_begin", .glo "_law_final", .glo "_law_signs", .glo "_law_turns", .glo "_law_one", .glo "_law_drawn", .glo "_law_text_of"]
def fas1 : List Fa := [.glo "_law_parts", .glo "_law_is_number", .glo "_law_is_signs", .glo "_law_part_at", .glo "_law_row_at", .glo "_law_begin_at", .glo "_law_island_at", .glo "_law_read", .glo "_law_wrong_index", .glo "_law_bent", .glo "_law_seen", .glo "law", .glo "HEADS", .glo "FORMS", .glo "FACINGS", .glo "Island", .glo "Map", .glo "Line", .glo "InvalidText", .glo "InvalidMap", .glo "MapError", .free "len", .free "range", .free "isinstance", .free "int", .free "str", .free "bool", .free "dict", .free "tuple", .free "list"]
def fas2 : List Fa := [.free "all", .free "zip", .free "enumerate", .free "min", .free "max", .free "abs", .free "sorted", .free "set", .free "super", .free "ValueError", .str "LAND" ".", .str "WATER" "~", .str "LETTERS" "ABCDEFGHIJKLMNOPQRSTUVWXYZ", .int "MAX_SIZE" 12, .str "TURN" "turn", .str "WALK" "walk", .str "UNTIL" "until", .str "TOWARD" "toward", .str "BESIDE" "beside", .str "NEAR" "near", .str "SHORE" "shore", .int "MAX_PACES" 20, .int "MAX_FAR" 22, .int "RIGHT" 1, .int "LEFT" 3, .int "MAX_INSTRUCTIONS" 20, .str "ISLAND" "island", .str "FROM" "from", .str "DIGITS" "0123456789", .cls "Island"]
def fas3 : List Fa := [.mkr "Island", .cls "Map", .mkr "Map", .mkr "Line", .noat "Island" "own_rows", .noat "Map" "own_island", .noat "Map" "own_signs", .noat "Map" "own_facings", .noat "Map" "own_instructions", .meth "Line" "fail", .meth "Line" "is_over", .meth "Line" "take", .meth "Line" "take_word", .meth "Line" "take_number", .meth "Line" "take_signs", .meth "Line" "take_part", .meth "Line" "take_instruction", .meth "Line" "end", .exm "InvalidText" "MapError" true, .keep "InvalidText", .exm "InvalidMap" "MapError" true, .keep "InvalidMap"]
def fas : List Fa := fas0 ++ fas1 ++ fas2 ++ fas3
def e_ln_pg (K : Frg) : Bool := decide (PySem.W.plainGet K (ga K "Line") Str.empty = true)
def e_ln_ic (K : Frg) : Bool := decide (PySem.W.isClsIn K (ga K "Line") = true)
def e_ln_po (K : Frg) : Bool := decide (PySem.W.plainOver K (ga K "Line") = true)
def e_ln_sa (K : Frg) : Bool := decide (PySem.W.findIn K (.ref (ga K "Line")) "__setattr__" = some (some (.builtin "object.__setattr__")))
def e_sl_number_at (K : Frg) : Bool := decide (PySem.W.findIn K (.ref (ga K "Line")) "number" = some (some (.ref (ma K (ga K "Line") "number"))))
def e_sl_number_get (K : Frg) : Bool := decide (PySem.W.specialIn K (.ref (ma K (ga K "Line") "number")) "__get__" = some (some (.builtin "member_descriptor.__get__")))
def e_sl_number_tk (K : Frg) : Bool := decide (PySem.W.takesIn K (.ref (ma K (ga K "Line") "number")) = some true)
def e_sl_number_ty (K : Frg) : Bool := decide (PySem.W.typeIn K (.ref (ma K (ga K "Line") "number")) = some (.type "member_descriptor"))
def e_sl_number_ix (K : Frg) : Bool := decide (PySem.W.slotIn K (ma K (ga K "Line") "number") (ga K "Line") = some 1)
def e_sl_words_at (K : Frg) : Bool := decide (PySem.W.findIn K (.ref (ga K "Line")) "words" = some (some (.ref (ma K (ga K "Line") "words"))))
def e_sl_words_get (K : Frg) : Bool := decide (PySem.W.specialIn K (.ref (ma K (ga K "Line") "words")) "__get__" = some (some (.builtin "member_descriptor.__get__")))
def e_sl_words_tk (K : Frg) : Bool := decide (PySem.W.takesIn K (.ref (ma K (ga K "Line") "words")) = some true)
def e_sl_words_ty (K : Frg) : Bool := decide (PySem.W.typeIn K (.ref (ma K (ga K "Line") "words")) = some (.type "member_descriptor"))
def e_sl_words_ix (K : Frg) : Bool := decide (PySem.W.slotIn K (ma K (ga K "Line") "words") (ga K "Line") = some 2)
def e_sl_at_at (K : Frg) : Bool := decide (PySem.W.findIn K (.ref (ga K "Line")) "at" = some (some (.ref (ma K (ga K "Line") "at"))))
def e_sl_at_get (K : Frg) : Bool := decide (PySem.W.specialIn K (.ref (ma K (ga K "Line") "at")) "__get__" = some (some (.builtin "member_descriptor.__get__")))
def e_sl_at_tk (K : Frg) : Bool := decide (PySem.W.takesIn K (.ref (ma K (ga K "Line") "at")) = some true)
def e_sl_at_ty (K : Frg) : Bool := decide (PySem.W.typeIn K (.ref (ma K (ga K "Line") "at")) = some (.type "member_descriptor"))
def e_sl_at_ix (K : Frg) : Bool := decide (PySem.W.slotIn K (ma K (ga K "Line") "at") (ga K "Line") = some 0)
def e_pr_Island_rows_at (K : Frg) : Bool := decide (PySem.W.findIn K (.ref (ga K "Island")) "rows" = some (some (.ref (ma K (ga K "Island") "rows"))))
def e_pr_Island_rows_get (K : Frg) : Bool := decide (PySem.W.specialIn K (.ref (ma K (ga K "Island") "rows")) "__get__" = some (some (.builtin "property.__get__")))
def e_pr_Island_rows_tak (K : Frg) : Bool := decide (PySem.W.takesIn K (.ref (ma K (ga K "Island") "rows")) = some true)
def e_pr_Island_rows_rec (K : Frg) : Bool := decide ((PySem.W.recIn K (ma K (ga K "Island") "rows") "property").map (fun l => l.take 1) = some [.ref (pg K "Island" "rows")])
def e_pr_Map_island_at (K : Frg) : Bool := decide (PySem.W.findIn K (.ref (ga K "Map")) "island" = some (some (.ref (ma K (ga K "Map") "island"))))
def e_pr_Map_island_get (K : Frg) : Bool := decide (PySem.W.specialIn K (.ref (ma K (ga K "Map") "island")) "__get__" = some (some (.builtin "property.__get__")))
def e_pr_Map_island_tak (K : Frg) : Bool := decide (PySem.W.takesIn K (.ref (ma K (ga K "Map") "island")) = some true)
def e_pr_Map_island_rec (K : Frg) : Bool := decide ((PySem.W.recIn K (ma K (ga K "Map") "island") "property").map (fun l => l.take 1) = some [.ref (pg K "Map" "island")])
def e_pr_Map_signs_at (K : Frg) : Bool := decide (PySem.W.findIn K (.ref (ga K "Map")) "signs" = some (some (.ref (ma K (ga K "Map") "signs"))))
def e_pr_Map_signs_get (K : Frg) : Bool := decide (PySem.W.specialIn K (.ref (ma K (ga K "Map") "signs")) "__get__" = some (some (.builtin "property.__get__")))
def e_pr_Map_signs_tak (K : Frg) : Bool := decide (PySem.W.takesIn K (.ref (ma K (ga K "Map") "signs")) = some true)
def e_pr_Map_signs_rec (K : Frg) : Bool := decide ((PySem.W.recIn K (ma K (ga K "Map") "signs") "property").map (fun l => l.take 1) = some [.ref (pg K "Map" "signs")])
def e_pr_Map_facings_at (K : Frg) : Bool := decide (PySem.W.findIn K (.ref (ga K "Map")) "facings" = some (some (.ref (ma K (ga K "Map") "facings"))))
def e_pr_Map_facings_get (K : Frg) : Bool := decide (PySem.W.specialIn K (.ref (ma K (ga K "Map") "facings")) "__get__" = some (some (.builtin "property.__get__")))
def e_pr_Map_facings_tak (K : Frg) : Bool := decide (PySem.W.takesIn K (.ref (ma K (ga K "Map") "facings")) = some true)
def e_pr_Map_facings_rec (K : Frg) : Bool := decide ((PySem.W.recIn K (ma K (ga K "Map") "facings") "property").map (fun l => l.take 1) = some [.ref (pg K "Map" "facings")])
def e_pr_Map_instructions_at (K : Frg) : Bool := decide (PySem.W.findIn K (.ref (ga K "Map")) "instructions" = some (some (.ref (ma K (ga K "Map") "instructions"))))
def e_pr_Map_instructions_get (K : Frg) : Bool := decide (PySem.W.specialIn K (.ref (ma K (ga K "Map") "instructions")) "__get__" = some (some (.builtin "property.__get__")))
def e_pr_Map_instructions_tak (K : Frg) : Bool := decide (PySem.W.takesIn K (.ref (ma K (ga K "Map") "instructions")) = some true)
def e_pr_Map_instructions_rec (K : Frg) : Bool := decide ((PySem.W.recIn K (ma K (ga K "Map") "instructions") "property").map (fun l => l.take 1) = some [.ref (pg K "Map" "instructions")])
def e_x_InvalidText_cls (K : Frg) : Bool := decide (PySem.W.excInitIn K (ga K "InvalidText") veBase "ValueError.__new__" = true)
def e_x_InvalidText_ve (K : Frg) : Bool := decide (((PySem.W.clsIn K (ga K "InvalidText")).map fun cd => cd.hasDict && PySem.HandSPX.refsVE (cd.mro.drop 1)) = some true)
def e_x_InvalidText_sup (K : Frg) : Bool := decide (PySem.W.ks_superIn K (ga K "InvalidText") (ga K "InvalidText") "__init__" = some (some (.builtin "ValueError.__init__")))
def e_x_InvalidText_sa (K : Frg) : Bool := decide (PySem.W.findIn K (.ref (ga K "InvalidText")) "__setattr__" = some (some (.builtin "object.__setattr__")))
def e_x_InvalidText_ga (K : Frg) : Bool := decide (PySem.W.findIn K (.ref (ga K "InvalidText")) "__getattribute__" = some (some (.builtin "BaseException.__getattribute__")))
def e_x_InvalidText_gg (K : Frg) : Bool := decide (PySem.W.findIn K (.ref (ga K "InvalidText")) "__getattr__" = some none)
def e_x_InvalidText_init (K : Frg) : Bool := decide (PySem.W.findIn K (.ref (ga K "InvalidText")) "__init__" = some (some (.ref (ma K (ga K "InvalidText") "__init__"))))
def e_x_InvalidText_ity (K : Frg) : Bool := decide (PySem.W.typeIn K (.ref (ma K (ga K "InvalidText") "__init__")) = some (.type "function"))
def e_x_InvalidText_sub (K : Frg) : Bool := decide (PySem.W.subIn K (.ref (ga K "InvalidText")) (.type "BaseException") = some true)
def e_x_InvalidText_suv (K : Frg) : Bool := decide (PySem.W.subIn K (.ref (ga K "InvalidText")) (.type "ValueError") = some true)
def e_x_InvalidText_ty (K : Frg) : Bool := decide (PySem.W.typeIn K (.ref (ga K "InvalidText")) = some (.type "type"))
def e_x_InvalidText_hd (K : Frg) : Bool := decide (PySem.W.hasDictIn K (ga K "InvalidText") = true)
def e_x_InvalidText_ha (K : Frg) : Bool := decide (PySem.W.findIn K (.ref (ga K "InvalidText")) "__class__" = some (some (.builtin "object.__class__")))
def e_x_InvalidText_hm (K : Frg) : Bool := decide (PySem.W.mroIn K (ga K "InvalidText") (.type "object") = some true)
def e_x_InvalidText_kt (K : Frg) : Bool := decide (PySem.W.kitOne K (.ref (ga K "InvalidText")) (.ref (ga K "InvalidText")) = some true)
def e_x_InvalidText_cell (K : Frg) : Bool := decide ((match K.lookup (cellOf K (ma K (ga K "InvalidText") "__init__")) with | some ⟨_, _, .cell (some (.ref a)), _⟩ => decide (a = ga K "InvalidText") | _ => false) = true)
def e_x_InvalidText_file (K : Frg) : Bool := decide ((match K.lookup (codeAt K (ma K (ga K "InvalidText") "__init__")) with | some ⟨_, _, .fields vs, _⟩ => (match vs[2]? with | some (Value.str f _) => decide (f = prg.main.file) | _ => false) | _ => false) = true)
def e_x_InvalidText_mro (K : Frg) : Bool := decide (PySem.W.mroIn K (ga K "InvalidText") (.ref (ga K "InvalidText")) = some true)
def e_x_InvalidText_no_row (K : Frg) : Bool := decide (PySem.W.findIn K (.ref (ga K "InvalidText")) "row" = some none)
def e_x_InvalidText_no_word (K : Frg) : Bool := decide (PySem.W.findIn K (.ref (ga K "InvalidText")) "word" = some none)
def e_x_InvalidMap_cls (K : Frg) : Bool := decide (PySem.W.excInitIn K (ga K "InvalidMap") veBase "ValueError.__new__" = true)
def e_x_InvalidMap_ve (K : Frg) : Bool := decide (((PySem.W.clsIn K (ga K "InvalidMap")).map fun cd => cd.hasDict && PySem.HandSPX.refsVE (cd.mro.drop 1)) = some true)
def e_x_InvalidMap_sup (K : Frg) : Bool := decide (PySem.W.ks_superIn K (ga K "InvalidMap") (ga K "InvalidMap") "__init__" = some (some (.builtin "ValueError.__init__")))
def e_x_InvalidMap_sa (K : Frg) : Bool := decide (PySem.W.findIn K (.ref (ga K "InvalidMap")) "__setattr__" = some (some (.builtin "object.__setattr__")))
def e_x_InvalidMap_ga (K : Frg) : Bool := decide (PySem.W.findIn K (.ref (ga K "InvalidMap")) "__getattribute__" = some (some (.builtin "BaseException.__getattribute__")))
def e_x_InvalidMap_gg (K : Frg) : Bool := decide (PySem.W.findIn K (.ref (ga K "InvalidMap")) "__getattr__" = some none)
def e_x_InvalidMap_init (K : Frg) : Bool := decide (PySem.W.findIn K (.ref (ga K "InvalidMap")) "__init__" = some (some (.ref (ma K (ga K "InvalidMap") "__init__"))))
def e_x_InvalidMap_ity (K : Frg) : Bool := decide (PySem.W.typeIn K (.ref (ma K (ga K "InvalidMap") "__init__")) = some (.type "function"))
def e_x_InvalidMap_sub (K : Frg) : Bool := decide (PySem.W.subIn K (.ref (ga K "InvalidMap")) (.type "BaseException") = some true)
def e_x_InvalidMap_suv (K : Frg) : Bool := decide (PySem.W.subIn K (.ref (ga K "InvalidMap")) (.type "ValueError") = some true)
def e_x_InvalidMap_ty (K : Frg) : Bool := decide (PySem.W.typeIn K (.ref (ga K "InvalidMap")) = some (.type "type"))
def e_x_InvalidMap_hd (K : Frg) : Bool := decide (PySem.W.hasDictIn K (ga K "InvalidMap") = true)
def e_x_InvalidMap_ha (K : Frg) : Bool := decide (PySem.W.findIn K (.ref (ga K "InvalidMap")) "__class__" = some (some (.builtin "object.__class__")))
def e_x_InvalidMap_hm (K : Frg) : Bool := decide (PySem.W.mroIn K (ga K "InvalidMap") (.type "object") = some true)
def e_x_InvalidMap_kt (K : Frg) : Bool := decide (PySem.W.kitOne K (.ref (ga K "InvalidMap")) (.ref (ga K "InvalidText")) = some false)
def e_x_InvalidMap_cell (K : Frg) : Bool := decide ((match K.lookup (cellOf K (ma K (ga K "InvalidMap") "__init__")) with | some ⟨_, _, .cell (some (.ref a)), _⟩ => decide (a = ga K "InvalidMap") | _ => false) = true)
def e_x_InvalidMap_file (K : Frg) : Bool := decide ((match K.lookup (codeAt K (ma K (ga K "InvalidMap") "__init__")) with | some ⟨_, _, .fields vs, _⟩ => (match vs[2]? with | some (Value.str f _) => decide (f = prg.main.file) | _ => false) | _ => false) = true)
def e_x_InvalidMap_mro (K : Frg) : Bool := decide (PySem.W.mroIn K (ga K "InvalidMap") (.ref (ga K "InvalidMap")) = some true)
def e_x_InvalidMap_no_index (K : Frg) : Bool := decide (PySem.W.findIn K (.ref (ga K "InvalidMap")) "index" = some none)
def e_x_ktmm (K : Frg) : Bool := decide (PySem.W.kitOne K (.ref (ga K "InvalidMap")) (.ref (ga K "InvalidMap")) = some true)
def e_x_hn (K : Frg) : Bool := decide (PySem.W.specialIn K (.builtin "object.__class__") "__get__" = some (some (.builtin "getset_descriptor.__get__")))
def e_x_ht (K : Frg) : Bool := decide (PySem.W.takesIn K (.builtin "object.__class__") = some true)
def e_mp_ha (K : Frg) : Bool := decide (PySem.W.findIn K (.ref (ga K "Map")) "__class__" = some (some (.builtin "object.__class__")))
def e_mp_hm (K : Frg) : Bool := decide (PySem.W.mroIn K (ga K "Map") (.type "object") = some true)
def e_mp_me (K : Frg) : Bool := decide (PySem.W.kitOne K (.ref (ga K "Map")) (.ref (ga K "Map")) = some true)
def e_x_op (K : Frg) : Bool := decide (PySem.W.nsIn K cStatics "thirdparty.any" = some none)
def e_t_HEADS (K : Frg) : Bool := decide (tupAt K (ga K "HEADS") [.str "turn", .str "walk", .str "until", .str "toward", .str "beside", .str "near", .str "shore"] = true)
def e_t_FACINGS (K : Frg) : Bool := decide (tupAt K (ga K "FACINGS") [.str "north", .str "east", .str "south", .str "west"] = true)
def e_fr_turn (K : Frg) : Bool := decide (PySem.W.nsIn K (ga K "FORMS") "turn" = some (some (.ref (frmAt K "turn"))))
def e_ft_turn (K : Frg) : Bool := decide (tupAt K (frmAt K "turn") [.str "numbers"] = true)
def e_fr_walk (K : Frg) : Bool := decide (PySem.W.nsIn K (ga K "FORMS") "walk" = some (some (.ref (frmAt K "walk"))))
def e_ft_walk (K : Frg) : Bool := decide (tupAt K (frmAt K "walk") [.str "number", .str "number"] = true)
def e_fr_until (K : Frg) : Bool := decide (PySem.W.nsIn K (ga K "FORMS") "until" = some (some (.ref (frmAt K "until"))))
def e_ft_until (K : Frg) : Bool := decide (tupAt K (frmAt K "until") [.str "signs"] = true)
def e_fr_toward (K : Frg) : Bool := decide (PySem.W.nsIn K (ga K "FORMS") "toward" = some (some (.ref (frmAt K "toward"))))
def e_ft_toward (K : Frg) : Bool := decide (tupAt K (frmAt K "toward") [.str "signs"] = true)
def e_fr_beside (K : Frg) : Bool := decide (PySem.W.nsIn K (ga K "FORMS") "beside" = some (some (.ref (frmAt K "beside"))))
def e_ft_beside (K : Frg) : Bool := decide (tupAt K (frmAt K "beside") [.str "number", .str "all"] = true)
def e_fr_near (K : Frg) : Bool := decide (PySem.W.nsIn K (ga K "FORMS") "near" = some (some (.ref (frmAt K "near"))))
def e_ft_near (K : Frg) : Bool := decide (tupAt K (frmAt K "near") [.str "all", .str "number"] = true)
def e_fr_shore (K : Frg) : Bool := decide (PySem.W.nsIn K (ga K "FORMS") "shore" = some (some (.ref (frmAt K "shore"))))
def e_ft_shore (K : Frg) : Bool := decide (tupAt K (frmAt K "shore") [.str "number", .str "number", .str "number"] = true)
def exs0 : List (Frg → Bool) := [e_ln_pg, e_ln_ic, e_ln_po, e_ln_sa, e_sl_number_at, e_sl_number_get, e_sl_number_tk, e_sl_number_ty, e_sl_number_ix, e_sl_words_at, e_sl_words_get, e_sl_words_tk, e_sl_words_ty, e_sl_words_ix, e_sl_at_at, e_sl_at_get, e_sl_at_tk, e_sl_at_ty, e_sl_at_ix, e_pr_Island_rows_at, e_pr_Island_rows_get, e_pr_Island_rows_tak, e_pr_Island_rows_rec, e_pr_Map_island_at, e_pr_Map_island_get]
def exs1 : List (Frg → Bool) := [e_pr_Map_island_tak, e_pr_Map_island_rec, e_pr_Map_signs_at, e_pr_Map_signs_get, e_pr_Map_signs_tak, e_pr_Map_signs_rec, e_pr_Map_facings_at, e_pr_Map_facings_get, e_pr_Map_facings_tak, e_pr_Map_facings_rec, e_pr_Map_instructions_at, e_pr_Map_instructions_get, e_pr_Map_instructions_tak, e_pr_Map_instructions_rec, e_x_InvalidText_cls, e_x_InvalidText_ve, e_x_InvalidText_sup, e_x_InvalidText_sa, e_x_InvalidText_ga, e_x_InvalidText_gg, e_x_InvalidText_init, e_x_InvalidText_ity, e_x_InvalidText_sub, e_x_InvalidText_suv, e_x_InvalidText_ty]
def exs2 : List (Frg → Bool) := [e_x_InvalidText_hd, e_x_InvalidText_ha, e_x_InvalidText_hm, e_x_InvalidText_kt, e_x_InvalidText_cell, e_x_InvalidText_file, e_x_InvalidText_mro, e_x_InvalidText_no_row, e_x_InvalidText_no_word, e_x_InvalidMap_cls, e_x_InvalidMap_ve, e_x_InvalidMap_sup, e_x_InvalidMap_sa, e_x_InvalidMap_ga, e_x_InvalidMap_gg, e_x_InvalidMap_init, e_x_InvalidMap_ity, e_x_InvalidMap_sub, e_x_InvalidMap_suv, e_x_InvalidMap_ty, e_x_InvalidMap_hd, e_x_InvalidMap_ha, e_x_InvalidMap_hm, e_x_InvalidMap_kt, e_x_InvalidMap_cell]
def exs3 : List (Frg → Bool) := [e_x_InvalidMap_file, e_x_InvalidMap_mro, e_x_InvalidMap_no_index, e_x_ktmm, e_x_hn, e_x_ht, e_mp_ha, e_mp_hm, e_mp_me, e_x_op, e_t_HEADS, e_t_FACINGS, e_fr_turn, e_ft_turn, e_fr_walk, e_ft_walk, e_fr_until, e_ft_until, e_fr_toward, e_ft_toward, e_fr_beside, e_ft_beside, e_fr_near, e_ft_near, e_fr_shore]
def exs4 : List (Frg → Bool) := [e_ft_shore]
def exs : List (Frg → Bool) := exs0 ++ exs1 ++ exs2 ++ exs3 ++ exs4
def fkeys : List Str := ["turn", "walk", "until", "toward", "beside", "near", "shore"]
abbrev AlO : Type := Bool × List FW × List FW × Option (List (Option (Str × Int)))
def obsO (K : Frg) : AlO := ((fas.all fun f => f.ok K) && (fns.all fun d => d.ok K) && (xfns.all fun d => d.ok K) && (exs.all fun f => f K), fns.map (fun d => fwOf K (d.at_ K)), xfns.map (fun d => fwOf K (d.at_ K)), dicW K (ga K "FORMS"))
def valO (w : World) : AlO := (true, fns.map (DD.val []), xfns.map (DD.val ["__class__"]), some (keysIn w.params fkeys))
def SaysO (w : World) (K : Frg) : Prop := obsO K = valO w
def obsOG (n : Nat) (g : Addr → Option Obj) : AlO := obsO (frG g (List.range n))
def hookO : PySem.W.Hook where
  α := AlO
  obs := fun s => obsOG s.heap.objs.size s.heap.get?
  val := fun w => valO w
  says := fun w h => ∃ K : Frg, K.In h ∧ SaysO w K
  of := fun _ _ e => ⟨_, frG_in, e⟩
  keeps := fun _ _ _ ⟨K, hK, c⟩ k => ⟨K, PySem.W.Frag.In.keeps hK k, c⟩
/-- what the walks lean on -/
structure Tx (w : World) (K : Frg) (mg : Str → Option Value) : Prop where
  at_ : ∃ h : Heap, K.In h ∧ h.Ns mainGlobals mg
  says : SaysO w K
section
variable {w : World} {K : Frg} {mg : Str → Option Value}
theorem Tx.bools (T : Tx w K mg) : ((fas.all fun f => f.ok K) && (fns.all fun d => d.ok K) && (xfns.all fun d => d.ok K) && (exs.all fun f => f K)) = true := congrArg (fun z : AlO => z.1) T.says
theorem Tx.fa (T : Tx w K mg) (i : Nat) {f : Fa} (h : fas[i]? = some f) : f.ok K = true :=
  List.all_eq_true.mp (ba (ba (ba T.bools).1).1).1 f (List.mem_of_getElem? h)
theorem Tx.ex (T : Tx w K mg) (i : Nat) {f : Frg → Bool} (h : exs[i]? = some f) : f K = true :=
  List.all_eq_true.mp (ba T.bools).2 f (List.mem_of_getElem? h)
theorem Tx.fn (T : Tx w K mg) (i : Nat) {d : DD} (h : fns[i]? = some d) : FunD K d.name d.qual (defArgs d.st) (defBody d.st) (defScope d.st) [] [] (d.at_ K) (fdOf K (d.at_ K)) := by
  have e : fns.map (fun d => fwOf K (d.at_ K)) = fns.map (DD.val []) := congrArg (fun z : AlO => z.2.1) T.says
  have e2 : (fns.map fun d => fwOf K (d.at_ K))[i]? = (fns.map (DD.val []))[i]? := by rw [e]
  rw [List.getElem?_map, List.getElem?_map, h] at e2
  exact DD.funD (Option.some.inj e2) (List.all_eq_true.mp (ba (ba (ba T.bools).1).1).2 d (List.mem_of_getElem? h))
theorem Tx.xfn (T : Tx w K mg) (i : Nat) {d : DD} (h : xfns[i]? = some d) : fwOf K (d.at_ K) = d.val ["__class__"] ∧ d.ok K = true := by
  have e : xfns.map (fun d => fwOf K (d.at_ K)) = xfns.map (DD.val ["__class__"]) := congrArg (fun z : AlO => z.2.2.1) T.says
  have e2 : (xfns.map fun d => fwOf K (d.at_ K))[i]? = (xfns.map (DD.val ["__class__"]))[i]? := by rw [e]
  rw [List.getElem?_map, List.getElem?_map, h] at e2
  exact ⟨Option.some.inj e2, List.all_eq_true.mp (ba (ba T.bools).1).2 d (List.mem_of_getElem? h)⟩
theorem Tx.forms (T : Tx w K mg) : ∃ es n, KDict K w (ga K "FORMS") es n := dicW_ok (show dicW K (ga K "FORMS") = some (keysIn w.params fkeys) from congrArg (fun z : AlO => z.2.2.2) T.says)
theorem Tx.glo (T : Tx w K mg) {x : Str} (c : (Fa.glo x).ok K = true) : mg x = some (.ref (ga K x)) := by
  obtain ⟨h, X, G⟩ := T.at_
  exact glo_ok X G c
theorem Tx.free (T : Tx w K mg) {x : Str} (c : (Fa.free x).ok K = true) : mg x = none := by
  obtain ⟨h, X, G⟩ := T.at_
  exact free_ok X G c
theorem Tx.int (T : Tx w K mg) {x : Str} {i : Int} (c : (Fa.int x i).ok K = true) : ∃ t, mg x = some (.int i t) := by
  obtain ⟨h, X, G⟩ := T.at_
  exact int_ok X G c
theorem Tx.str (T : Tx w K mg) {x z : Str} (c : (Fa.str x z).ok K = true) : ∃ t, mg x = some (.str z t) := by
  obtain ⟨h, X, G⟩ := T.at_
  exact str_ok X G c

theorem Tx.g_is_number (T : Tx w K mg) : mg "is_number" = some (.ref (ga K "is_number")) := T.glo (T.fa 0 (f := .glo "is_number") rfl)
theorem Tx.g_is_rising (T : Tx w K mg) : mg "is_rising" = some (.ref (ga K "is_rising")) := T.glo (T.fa 1 (f := .glo "is_rising") rfl)
theorem Tx.g_are_signs (T : Tx w K mg) : mg "are_signs" = some (.ref (ga K "are_signs")) := T.glo (T.fa 2 (f := .glo "are_signs") rfl)
theorem Tx.g_are_turns (T : Tx w K mg) : mg "are_turns" = some (.ref (ga K "are_turns")) := T.glo (T.fa 3 (f := .glo "are_turns") rfl)
theorem Tx.g_is_range (T : Tx w K mg) : mg "is_range" = some (.ref (ga K "is_range")) := T.glo (T.fa 4 (f := .glo "is_range") rfl)
theorem Tx.g_is_instruction (T : Tx w K mg) : mg "is_instruction" = some (.ref (ga K "is_instruction")) := T.glo (T.fa 5 (f := .glo "is_instruction") rfl)
theorem Tx.g_is_number_word (T : Tx w K mg) : mg "is_number_word" = some (.ref (ga K "is_number_word")) := T.glo (T.fa 6 (f := .glo "is_number_word") rfl)
theorem Tx.g_is_sign_word (T : Tx w K mg) : mg "is_sign_word" = some (.ref (ga K "is_sign_word")) := T.glo (T.fa 7 (f := .glo "is_sign_word") rfl)
theorem Tx.g_lines_of (T : Tx w K mg) : mg "lines_of" = some (.ref (ga K "lines_of")) := T.glo (T.fa 8 (f := .glo "lines_of") rfl)
theorem Tx.g_read_island (T : Tx w K mg) : mg "read_island" = some (.ref (ga K "read_island")) := T.glo (T.fa 9 (f := .glo "read_island") rfl)
theorem Tx.g_read_begin (T : Tx w K mg) : mg "read_begin" = some (.ref (ga K "read_begin")) := T.glo (T.fa 10 (f := .glo "read_begin") rfl)
theorem Tx.g_parse_map (T : Tx w K mg) : mg "parse_map" = some (.ref (ga K "parse_map")) := T.glo (T.fa 11 (f := .glo "parse_map") rfl)
theorem Tx.g__law_mix (T : Tx w K mg) : mg "_law_mix" = some (.ref (ga K "_law_mix")) := T.glo (T.fa 12 (f := .glo "_law_mix") rfl)
theorem Tx.g__law_next (T : Tx w K mg) : mg "_law_next" = some (.ref (ga K "_law_next")) := T.glo (T.fa 13 (f := .glo "_law_next") rfl)
theorem Tx.g__law_alike (T : Tx w K mg) : mg "_law_alike" = some (.ref (ga K "_law_alike")) := T.glo (T.fa 14 (f := .glo "_law_alike") rfl)
theorem Tx.g__law_rows (T : Tx w K mg) : mg "_law_rows" = some (.ref (ga K "_law_rows")) := T.glo (T.fa 15 (f := .glo "_law_rows") rfl)
theorem Tx.g__law_sign (T : Tx w K mg) : mg "_law_sign" = some (.ref (ga K "_law_sign")) := T.glo (T.fa 16 (f := .glo "_law_sign") rfl)
theorem Tx.g__law_cells (T : Tx w K mg) : mg "_law_cells" = some (.ref (ga K "_law_cells")) := T.glo (T.fa 17 (f := .glo "_law_cells") rfl)
theorem Tx.g__law_on (T : Tx w K mg) : mg "_law_on" = some (.ref (ga K "_law_on")) := T.glo (T.fa 18 (f := .glo "_law_on") rfl)
theorem Tx.g__law_line (T : Tx w K mg) : mg "_law_line" = some (.ref (ga K "_law_line")) := T.glo (T.fa 19 (f := .glo "_law_line") rfl)
theorem Tx.g__law_shore (T : Tx w K mg) : mg "_law_shore" = some (.ref (ga K "_law_shore")) := T.glo (T.fa 20 (f := .glo "_law_shore") rfl)
theorem Tx.g__law_steps (T : Tx w K mg) : mg "_law_steps" = some (.ref (ga K "_law_steps")) := T.glo (T.fa 21 (f := .glo "_law_steps") rfl)
theorem Tx.g__law_behind (T : Tx w K mg) : mg "_law_behind" = some (.ref (ga K "_law_behind")) := T.glo (T.fa 22 (f := .glo "_law_behind") rfl)
theorem Tx.g__law_begin (T : Tx w K mg) : mg "_law_begin" = some (.ref (ga K "_law_begin")) := T.glo (T.fa 23 (f := .glo "_law_begin") rfl)
theorem Tx.g__law_final (T : Tx w K mg) : mg "_law_final" = some (.ref (ga K "_law_final")) := T.glo (T.fa 24 (f := .glo "_law_final") rfl)
theorem Tx.g__law_signs (T : Tx w K mg) : mg "_law_signs" = some (.ref (ga K "_law_signs")) := T.glo (T.fa 25 (f := .glo "_law_signs") rfl)
theorem Tx.g__law_turns (T : Tx w K mg) : mg "_law_turns" = some (.ref (ga K "_law_turns")) := T.glo (T.fa 26 (f := .glo "_law_turns") rfl)
theorem Tx.g__law_one (T : Tx w K mg) : mg "_law_one" = some (.ref (ga K "_law_one")) := T.glo (T.fa 27 (f := .glo "_law_one") rfl)
theorem Tx.g__law_drawn (T : Tx w K mg) : mg "_law_drawn" = some (.ref (ga K "_law_drawn")) := T.glo (T.fa 28 (f := .glo "_law_drawn") rfl)
theorem Tx.g__law_text_of (T : Tx w K mg) : mg "_law_text_of" = some (.ref (ga K "_law_text_of")) := T.glo (T.fa 29 (f := .glo "_law_text_of") rfl)
theorem Tx.g__law_parts (T : Tx w K mg) : mg "_law_parts" = some (.ref (ga K "_law_parts")) := T.glo (T.fa 30 (f := .glo "_law_parts") rfl)
theorem Tx.g__law_is_number (T : Tx w K mg) : mg "_law_is_number" = some (.ref (ga K "_law_is_number")) := T.glo (T.fa 31 (f := .glo "_law_is_number") rfl)
theorem Tx.g__law_is_signs (T : Tx w K mg) : mg "_law_is_signs" = some (.ref (ga K "_law_is_signs")) := T.glo (T.fa 32 (f := .glo "_law_is_signs") rfl)
theorem Tx.g__law_part_at (T : Tx w K mg) : mg "_law_part_at" = some (.ref (ga K "_law_part_at")) := T.glo (T.fa 33 (f := .glo "_law_part_at") rfl)
theorem Tx.g__law_row_at (T : Tx w K mg) : mg "_law_row_at" = some (.ref (ga K "_law_row_at")) := T.glo (T.fa 34 (f := .glo "_law_row_at") rfl)
theorem Tx.g__law_begin_at (T : Tx w K mg) : mg "_law_begin_at" = some (.ref (ga K "_law_begin_at")) := T.glo (T.fa 35 (f := .glo "_law_begin_at") rfl)
theorem Tx.g__law_island_at (T : Tx w K mg) : mg "_law_island_at" = some (.ref (ga K "_law_island_at")) := T.glo (T.fa 36 (f := .glo "_law_island_at") rfl)
theorem Tx.g__law_read (T : Tx w K mg) : mg "_law_read" = some (.ref (ga K "_law_read")) := T.glo (T.fa 37 (f := .glo "_law_read") rfl)
theorem Tx.g__law_wrong_index (T : Tx w K mg) : mg "_law_wrong_index" = some (.ref (ga K "_law_wrong_index")) := T.glo (T.fa 38 (f := .glo "_law_wrong_index") rfl)
theorem Tx.g__law_bent (T : Tx w K mg) : mg "_law_bent" = some (.ref (ga K "_law_bent")) := T.glo (T.fa 39 (f := .glo "_law_bent") rfl)
theorem Tx.g__law_seen (T : Tx w K mg) : mg "_law_seen" = some (.ref (ga K "_law_seen")) := T.glo (T.fa 40 (f := .glo "_law_seen") rfl)
theorem Tx.g_law (T : Tx w K mg) : mg "law" = some (.ref (ga K "law")) := T.glo (T.fa 41 (f := .glo "law") rfl)
theorem Tx.g_HEADS (T : Tx w K mg) : mg "HEADS" = some (.ref (ga K "HEADS")) := T.glo (T.fa 42 (f := .glo "HEADS") rfl)
theorem Tx.g_FORMS (T : Tx w K mg) : mg "FORMS" = some (.ref (ga K "FORMS")) := T.glo (T.fa 43 (f := .glo "FORMS") rfl)
theorem Tx.g_FACINGS (T : Tx w K mg) : mg "FACINGS" = some (.ref (ga K "FACINGS")) := T.glo (T.fa 44 (f := .glo "FACINGS") rfl)
theorem Tx.g_Island (T : Tx w K mg) : mg "Island" = some (.ref (ga K "Island")) := T.glo (T.fa 45 (f := .glo "Island") rfl)
theorem Tx.g_Map (T : Tx w K mg) : mg "Map" = some (.ref (ga K "Map")) := T.glo (T.fa 46 (f := .glo "Map") rfl)
theorem Tx.g_Line (T : Tx w K mg) : mg "Line" = some (.ref (ga K "Line")) := T.glo (T.fa 47 (f := .glo "Line") rfl)
theorem Tx.g_InvalidText (T : Tx w K mg) : mg "InvalidText" = some (.ref (ga K "InvalidText")) := T.glo (T.fa 48 (f := .glo "InvalidText") rfl)
theorem Tx.g_InvalidMap (T : Tx w K mg) : mg "InvalidMap" = some (.ref (ga K "InvalidMap")) := T.glo (T.fa 49 (f := .glo "InvalidMap") rfl)
theorem Tx.g_MapError (T : Tx w K mg) : mg "MapError" = some (.ref (ga K "MapError")) := T.glo (T.fa 50 (f := .glo "MapError") rfl)
theorem Tx.b_len (T : Tx w K mg) : mg "len" = none := T.free (T.fa 51 (f := .free "len") rfl)
theorem Tx.b_range (T : Tx w K mg) : mg "range" = none := T.free (T.fa 52 (f := .free "range") rfl)
theorem Tx.b_isinstance (T : Tx w K mg) : mg "isinstance" = none := T.free (T.fa 53 (f := .free "isinstance") rfl)
theorem Tx.b_int (T : Tx w K mg) : mg "int" = none := T.free (T.fa 54 (f := .free "int") rfl)
theorem Tx.b_str (T : Tx w K mg) : mg "str" = none := T.free (T.fa 55 (f := .free "str") rfl)
theorem Tx.b_bool (T : Tx w K mg) : mg "bool" = none := T.free (T.fa 56 (f := .free "bool") rfl)
theorem Tx.b_dict (T : Tx w K mg) : mg "dict" = none := T.free (T.fa 57 (f := .free "dict") rfl)
theorem Tx.b_tuple (T : Tx w K mg) : mg "tuple" = none := T.free (T.fa 58 (f := .free "tuple") rfl)
theorem Tx.b_list (T : Tx w K mg) : mg "list" = none := T.free (T.fa 59 (f := .free "list") rfl)
theorem Tx.b_all (T : Tx w K mg) : mg "all" = none := T.free (T.fa 60 (f := .free "all") rfl)
theorem Tx.b_zip (T : Tx w K mg) : mg "zip" = none := T.free (T.fa 61 (f := .free "zip") rfl)
theorem Tx.b_enumerate (T : Tx w K mg) : mg "enumerate" = none := T.free (T.fa 62 (f := .free "enumerate") rfl)
theorem Tx.b_min (T : Tx w K mg) : mg "min" = none := T.free (T.fa 63 (f := .free "min") rfl)
theorem Tx.b_max (T : Tx w K mg) : mg "max" = none := T.free (T.fa 64 (f := .free "max") rfl)
theorem Tx.b_abs (T : Tx w K mg) : mg "abs" = none := T.free (T.fa 65 (f := .free "abs") rfl)
theorem Tx.b_sorted (T : Tx w K mg) : mg "sorted" = none := T.free (T.fa 66 (f := .free "sorted") rfl)
theorem Tx.b_set (T : Tx w K mg) : mg "set" = none := T.free (T.fa 67 (f := .free "set") rfl)
theorem Tx.b_super (T : Tx w K mg) : mg "super" = none := T.free (T.fa 68 (f := .free "super") rfl)
theorem Tx.b_ValueError (T : Tx w K mg) : mg "ValueError" = none := T.free (T.fa 69 (f := .free "ValueError") rfl)
theorem Tx.c_LAND (T : Tx w K mg) : ∃ t, mg "LAND" = some (.str "." t) := T.str (T.fa 70 (f := .str "LAND" ".") rfl)
theorem Tx.c_WATER (T : Tx w K mg) : ∃ t, mg "WATER" = some (.str "~" t) := T.str (T.fa 71 (f := .str "WATER" "~") rfl)
theorem Tx.c_LETTERS (T : Tx w K mg) : ∃ t, mg "LETTERS" = some (.str "ABCDEFGHIJKLMNOPQRSTUVWXYZ" t) := T.str (T.fa 72 (f := .str "LETTERS" "ABCDEFGHIJKLMNOPQRSTUVWXYZ") rfl)
theorem Tx.c_MAX_SIZE (T : Tx w K mg) : ∃ t, mg "MAX_SIZE" = some (.int 12 t) := T.int (T.fa 73 (f := .int "MAX_SIZE" 12) rfl)
theorem Tx.c_TURN (T : Tx w K mg) : ∃ t, mg "TURN" = some (.str "turn" t) := T.str (T.fa 74 (f := .str "TURN" "turn") rfl)
theorem Tx.c_WALK (T : Tx w K mg) : ∃ t, mg "WALK" = some (.str "walk" t) := T.str (T.fa 75 (f := .str "WALK" "walk") rfl)
theorem Tx.c_UNTIL (T : Tx w K mg) : ∃ t, mg "UNTIL" = some (.str "until" t) := T.str (T.fa 76 (f := .str "UNTIL" "until") rfl)
theorem Tx.c_TOWARD (T : Tx w K mg) : ∃ t, mg "TOWARD" = some (.str "toward" t) := T.str (T.fa 77 (f := .str "TOWARD" "toward") rfl)
theorem Tx.c_BESIDE (T : Tx w K mg) : ∃ t, mg "BESIDE" = some (.str "beside" t) := T.str (T.fa 78 (f := .str "BESIDE" "beside") rfl)
theorem Tx.c_NEAR (T : Tx w K mg) : ∃ t, mg "NEAR" = some (.str "near" t) := T.str (T.fa 79 (f := .str "NEAR" "near") rfl)
theorem Tx.c_SHORE (T : Tx w K mg) : ∃ t, mg "SHORE" = some (.str "shore" t) := T.str (T.fa 80 (f := .str "SHORE" "shore") rfl)
theorem Tx.c_MAX_PACES (T : Tx w K mg) : ∃ t, mg "MAX_PACES" = some (.int 20 t) := T.int (T.fa 81 (f := .int "MAX_PACES" 20) rfl)
theorem Tx.c_MAX_FAR (T : Tx w K mg) : ∃ t, mg "MAX_FAR" = some (.int 22 t) := T.int (T.fa 82 (f := .int "MAX_FAR" 22) rfl)
theorem Tx.c_RIGHT (T : Tx w K mg) : ∃ t, mg "RIGHT" = some (.int 1 t) := T.int (T.fa 83 (f := .int "RIGHT" 1) rfl)
theorem Tx.c_LEFT (T : Tx w K mg) : ∃ t, mg "LEFT" = some (.int 3 t) := T.int (T.fa 84 (f := .int "LEFT" 3) rfl)
theorem Tx.c_MAX_INSTRUCTIONS (T : Tx w K mg) : ∃ t, mg "MAX_INSTRUCTIONS" = some (.int 20 t) := T.int (T.fa 85 (f := .int "MAX_INSTRUCTIONS" 20) rfl)
theorem Tx.c_ISLAND (T : Tx w K mg) : ∃ t, mg "ISLAND" = some (.str "island" t) := T.str (T.fa 86 (f := .str "ISLAND" "island") rfl)
theorem Tx.c_FROM (T : Tx w K mg) : ∃ t, mg "FROM" = some (.str "from" t) := T.str (T.fa 87 (f := .str "FROM" "from") rfl)
theorem Tx.c_DIGITS (T : Tx w K mg) : ∃ t, mg "DIGITS" = some (.str "0123456789" t) := T.str (T.fa 88 (f := .str "DIGITS" "0123456789") rfl)
theorem Tx.cl_Island (T : Tx w K mg) : Cls K (ga K "Island") := cls_ok (T.fa 89 (f := .cls "Island") rfl)
theorem Tx.mk_Island (T : Tx w K mg) : Mk K (ga K "Island") (ma K (ga K "Island") "__init__") := mkr_ok (T.fa 90 (f := .mkr "Island") rfl)
theorem Tx.cl_Map (T : Tx w K mg) : Cls K (ga K "Map") := cls_ok (T.fa 91 (f := .cls "Map") rfl)
theorem Tx.mk_Map (T : Tx w K mg) : Mk K (ga K "Map") (ma K (ga K "Map") "__init__") := mkr_ok (T.fa 92 (f := .mkr "Map") rfl)
theorem Tx.mk_Line (T : Tx w K mg) : Mk K (ga K "Line") (ma K (ga K "Line") "__init__") := mkr_ok (T.fa 93 (f := .mkr "Line") rfl)
theorem Tx.na_Island_own_rows (T : Tx w K mg) : NoAttr K (ga K "Island") "own_rows" := noat_ok (T.fa 94 (f := .noat "Island" "own_rows") rfl)
theorem Tx.na_Map_own_island (T : Tx w K mg) : NoAttr K (ga K "Map") "own_island" := noat_ok (T.fa 95 (f := .noat "Map" "own_island") rfl)
theorem Tx.na_Map_own_signs (T : Tx w K mg) : NoAttr K (ga K "Map") "own_signs" := noat_ok (T.fa 96 (f := .noat "Map" "own_signs") rfl)
theorem Tx.na_Map_own_facings (T : Tx w K mg) : NoAttr K (ga K "Map") "own_facings" := noat_ok (T.fa 97 (f := .noat "Map" "own_facings") rfl)
theorem Tx.na_Map_own_instructions (T : Tx w K mg) : NoAttr K (ga K "Map") "own_instructions" := noat_ok (T.fa 98 (f := .noat "Map" "own_instructions") rfl)
theorem Tx.m_Line_fail (T : Tx w K mg) : Meth K (ga K "Line") "fail" (ma K (ga K "Line") "fail") := meth_ok (T.fa 99 (f := .meth "Line" "fail") rfl)
theorem Tx.m_Line_is_over (T : Tx w K mg) : Meth K (ga K "Line") "is_over" (ma K (ga K "Line") "is_over") := meth_ok (T.fa 100 (f := .meth "Line" "is_over") rfl)
theorem Tx.m_Line_take (T : Tx w K mg) : Meth K (ga K "Line") "take" (ma K (ga K "Line") "take") := meth_ok (T.fa 101 (f := .meth "Line" "take") rfl)
theorem Tx.m_Line_take_word (T : Tx w K mg) : Meth K (ga K "Line") "take_word" (ma K (ga K "Line") "take_word") := meth_ok (T.fa 102 (f := .meth "Line" "take_word") rfl)
theorem Tx.m_Line_take_number (T : Tx w K mg) : Meth K (ga K "Line") "take_number" (ma K (ga K "Line") "take_number") := meth_ok (T.fa 103 (f := .meth "Line" "take_number") rfl)
theorem Tx.m_Line_take_signs (T : Tx w K mg) : Meth K (ga K "Line") "take_signs" (ma K (ga K "Line") "take_signs") := meth_ok (T.fa 104 (f := .meth "Line" "take_signs") rfl)
theorem Tx.m_Line_take_part (T : Tx w K mg) : Meth K (ga K "Line") "take_part" (ma K (ga K "Line") "take_part") := meth_ok (T.fa 105 (f := .meth "Line" "take_part") rfl)
theorem Tx.m_Line_take_instruction (T : Tx w K mg) : Meth K (ga K "Line") "take_instruction" (ma K (ga K "Line") "take_instruction") := meth_ok (T.fa 106 (f := .meth "Line" "take_instruction") rfl)
theorem Tx.m_Line_end (T : Tx w K mg) : Meth K (ga K "Line") "end" (ma K (ga K "Line") "end") := meth_ok (T.fa 107 (f := .meth "Line" "end") rfl)
theorem Tx.xm_InvalidText (T : Tx w K mg) : PySem.W.exmOne K (.ref (ga K "InvalidText")) (.ref (ga K "MapError")) = some true := exm_ok (T.fa 108 (f := .exm "InvalidText" "MapError" true) rfl)
theorem Tx.kp_InvalidText (T : Tx w K mg) : PySem.W.keepIn K (.ref (ga K "InvalidText")) = true := keep_ok (T.fa 109 (f := .keep "InvalidText") rfl)
theorem Tx.xm_InvalidMap (T : Tx w K mg) : PySem.W.exmOne K (.ref (ga K "InvalidMap")) (.ref (ga K "MapError")) = some true := exm_ok (T.fa 110 (f := .exm "InvalidMap" "MapError" true) rfl)
theorem Tx.kp_InvalidMap (T : Tx w K mg) : PySem.W.keepIn K (.ref (ga K "InvalidMap")) = true := keep_ok (T.fa 111 (f := .keep "InvalidMap") rfl)
theorem Tx.ln_pg (T : Tx w K mg) : PySem.W.plainGet K (ga K "Line") Str.empty = true := of_decide_eq_true (T.ex 0 (f := e_ln_pg) rfl)
theorem Tx.ln_ic (T : Tx w K mg) : PySem.W.isClsIn K (ga K "Line") = true := of_decide_eq_true (T.ex 1 (f := e_ln_ic) rfl)
theorem Tx.ln_po (T : Tx w K mg) : PySem.W.plainOver K (ga K "Line") = true := of_decide_eq_true (T.ex 2 (f := e_ln_po) rfl)
theorem Tx.ln_sa (T : Tx w K mg) : PySem.W.findIn K (.ref (ga K "Line")) "__setattr__" = some (some (.builtin "object.__setattr__")) := of_decide_eq_true (T.ex 3 (f := e_ln_sa) rfl)
theorem Tx.sl_number_at (T : Tx w K mg) : PySem.W.findIn K (.ref (ga K "Line")) "number" = some (some (.ref (ma K (ga K "Line") "number"))) := of_decide_eq_true (T.ex 4 (f := e_sl_number_at) rfl)
theorem Tx.sl_number_get (T : Tx w K mg) : PySem.W.specialIn K (.ref (ma K (ga K "Line") "number")) "__get__" = some (some (.builtin "member_descriptor.__get__")) := of_decide_eq_true (T.ex 5 (f := e_sl_number_get) rfl)
theorem Tx.sl_number_tk (T : Tx w K mg) : PySem.W.takesIn K (.ref (ma K (ga K "Line") "number")) = some true := of_decide_eq_true (T.ex 6 (f := e_sl_number_tk) rfl)
theorem Tx.sl_number_ty (T : Tx w K mg) : PySem.W.typeIn K (.ref (ma K (ga K "Line") "number")) = some (.type "member_descriptor") := of_decide_eq_true (T.ex 7 (f := e_sl_number_ty) rfl)
theorem Tx.sl_number_ix (T : Tx w K mg) : PySem.W.slotIn K (ma K (ga K "Line") "number") (ga K "Line") = some 1 := of_decide_eq_true (T.ex 8 (f := e_sl_number_ix) rfl)
theorem Tx.sl_words_at (T : Tx w K mg) : PySem.W.findIn K (.ref (ga K "Line")) "words" = some (some (.ref (ma K (ga K "Line") "words"))) := of_decide_eq_true (T.ex 9 (f := e_sl_words_at) rfl)
theorem Tx.sl_words_get (T : Tx w K mg) : PySem.W.specialIn K (.ref (ma K (ga K "Line") "words")) "__get__" = some (some (.builtin "member_descriptor.__get__")) := of_decide_eq_true (T.ex 10 (f := e_sl_words_get) rfl)
theorem Tx.sl_words_tk (T : Tx w K mg) : PySem.W.takesIn K (.ref (ma K (ga K "Line") "words")) = some true := of_decide_eq_true (T.ex 11 (f := e_sl_words_tk) rfl)
theorem Tx.sl_words_ty (T : Tx w K mg) : PySem.W.typeIn K (.ref (ma K (ga K "Line") "words")) = some (.type "member_descriptor") := of_decide_eq_true (T.ex 12 (f := e_sl_words_ty) rfl)
theorem Tx.sl_words_ix (T : Tx w K mg) : PySem.W.slotIn K (ma K (ga K "Line") "words") (ga K "Line") = some 2 := of_decide_eq_true (T.ex 13 (f := e_sl_words_ix) rfl)
theorem Tx.sl_at_at (T : Tx w K mg) : PySem.W.findIn K (.ref (ga K "Line")) "at" = some (some (.ref (ma K (ga K "Line") "at"))) := of_decide_eq_true (T.ex 14 (f := e_sl_at_at) rfl)
theorem Tx.sl_at_get (T : Tx w K mg) : PySem.W.specialIn K (.ref (ma K (ga K "Line") "at")) "__get__" = some (some (.builtin "member_descriptor.__get__")) := of_decide_eq_true (T.ex 15 (f := e_sl_at_get) rfl)
theorem Tx.sl_at_tk (T : Tx w K mg) : PySem.W.takesIn K (.ref (ma K (ga K "Line") "at")) = some true := of_decide_eq_true (T.ex 16 (f := e_sl_at_tk) rfl)
theorem Tx.sl_at_ty (T : Tx w K mg) : PySem.W.typeIn K (.ref (ma K (ga K "Line") "at")) = some (.type "member_descriptor") := of_decide_eq_true (T.ex 17 (f := e_sl_at_ty) rfl)
theorem Tx.sl_at_ix (T : Tx w K mg) : PySem.W.slotIn K (ma K (ga K "Line") "at") (ga K "Line") = some 0 := of_decide_eq_true (T.ex 18 (f := e_sl_at_ix) rfl)
theorem Tx.pr_Island_rows_at (T : Tx w K mg) : PySem.W.findIn K (.ref (ga K "Island")) "rows" = some (some (.ref (ma K (ga K "Island") "rows"))) := of_decide_eq_true (T.ex 19 (f := e_pr_Island_rows_at) rfl)
theorem Tx.pr_Island_rows_get (T : Tx w K mg) : PySem.W.specialIn K (.ref (ma K (ga K "Island") "rows")) "__get__" = some (some (.builtin "property.__get__")) := of_decide_eq_true (T.ex 20 (f := e_pr_Island_rows_get) rfl)
theorem Tx.pr_Island_rows_tak (T : Tx w K mg) : PySem.W.takesIn K (.ref (ma K (ga K "Island") "rows")) = some true := of_decide_eq_true (T.ex 21 (f := e_pr_Island_rows_tak) rfl)
theorem Tx.pr_Island_rows_rec (T : Tx w K mg) : (PySem.W.recIn K (ma K (ga K "Island") "rows") "property").map (fun l => l.take 1) = some [.ref (pg K "Island" "rows")] := of_decide_eq_true (T.ex 22 (f := e_pr_Island_rows_rec) rfl)
theorem Tx.pr_Map_island_at (T : Tx w K mg) : PySem.W.findIn K (.ref (ga K "Map")) "island" = some (some (.ref (ma K (ga K "Map") "island"))) := of_decide_eq_true (T.ex 23 (f := e_pr_Map_island_at) rfl)
theorem Tx.pr_Map_island_get (T : Tx w K mg) : PySem.W.specialIn K (.ref (ma K (ga K "Map") "island")) "__get__" = some (some (.builtin "property.__get__")) := of_decide_eq_true (T.ex 24 (f := e_pr_Map_island_get) rfl)
theorem Tx.pr_Map_island_tak (T : Tx w K mg) : PySem.W.takesIn K (.ref (ma K (ga K "Map") "island")) = some true := of_decide_eq_true (T.ex 25 (f := e_pr_Map_island_tak) rfl)
theorem Tx.pr_Map_island_rec (T : Tx w K mg) : (PySem.W.recIn K (ma K (ga K "Map") "island") "property").map (fun l => l.take 1) = some [.ref (pg K "Map" "island")] := of_decide_eq_true (T.ex 26 (f := e_pr_Map_island_rec) rfl)
theorem Tx.pr_Map_signs_at (T : Tx w K mg) : PySem.W.findIn K (.ref (ga K "Map")) "signs" = some (some (.ref (ma K (ga K "Map") "signs"))) := of_decide_eq_true (T.ex 27 (f := e_pr_Map_signs_at) rfl)
theorem Tx.pr_Map_signs_get (T : Tx w K mg) : PySem.W.specialIn K (.ref (ma K (ga K "Map") "signs")) "__get__" = some (some (.builtin "property.__get__")) := of_decide_eq_true (T.ex 28 (f := e_pr_Map_signs_get) rfl)
theorem Tx.pr_Map_signs_tak (T : Tx w K mg) : PySem.W.takesIn K (.ref (ma K (ga K "Map") "signs")) = some true := of_decide_eq_true (T.ex 29 (f := e_pr_Map_signs_tak) rfl)
theorem Tx.pr_Map_signs_rec (T : Tx w K mg) : (PySem.W.recIn K (ma K (ga K "Map") "signs") "property").map (fun l => l.take 1) = some [.ref (pg K "Map" "signs")] := of_decide_eq_true (T.ex 30 (f := e_pr_Map_signs_rec) rfl)
theorem Tx.pr_Map_facings_at (T : Tx w K mg) : PySem.W.findIn K (.ref (ga K "Map")) "facings" = some (some (.ref (ma K (ga K "Map") "facings"))) := of_decide_eq_true (T.ex 31 (f := e_pr_Map_facings_at) rfl)
theorem Tx.pr_Map_facings_get (T : Tx w K mg) : PySem.W.specialIn K (.ref (ma K (ga K "Map") "facings")) "__get__" = some (some (.builtin "property.__get__")) := of_decide_eq_true (T.ex 32 (f := e_pr_Map_facings_get) rfl)
theorem Tx.pr_Map_facings_tak (T : Tx w K mg) : PySem.W.takesIn K (.ref (ma K (ga K "Map") "facings")) = some true := of_decide_eq_true (T.ex 33 (f := e_pr_Map_facings_tak) rfl)
theorem Tx.pr_Map_facings_rec (T : Tx w K mg) : (PySem.W.recIn K (ma K (ga K "Map") "facings") "property").map (fun l => l.take 1) = some [.ref (pg K "Map" "facings")] := of_decide_eq_true (T.ex 34 (f := e_pr_Map_facings_rec) rfl)
theorem Tx.pr_Map_instructions_at (T : Tx w K mg) : PySem.W.findIn K (.ref (ga K "Map")) "instructions" = some (some (.ref (ma K (ga K "Map") "instructions"))) := of_decide_eq_true (T.ex 35 (f := e_pr_Map_instructions_at) rfl)
theorem Tx.pr_Map_instructions_get (T : Tx w K mg) : PySem.W.specialIn K (.ref (ma K (ga K "Map") "instructions")) "__get__" = some (some (.builtin "property.__get__")) := of_decide_eq_true (T.ex 36 (f := e_pr_Map_instructions_get) rfl)
theorem Tx.pr_Map_instructions_tak (T : Tx w K mg) : PySem.W.takesIn K (.ref (ma K (ga K "Map") "instructions")) = some true := of_decide_eq_true (T.ex 37 (f := e_pr_Map_instructions_tak) rfl)
theorem Tx.pr_Map_instructions_rec (T : Tx w K mg) : (PySem.W.recIn K (ma K (ga K "Map") "instructions") "property").map (fun l => l.take 1) = some [.ref (pg K "Map" "instructions")] := of_decide_eq_true (T.ex 38 (f := e_pr_Map_instructions_rec) rfl)
theorem Tx.x_InvalidText_cls (T : Tx w K mg) : PySem.W.excInitIn K (ga K "InvalidText") veBase "ValueError.__new__" = true := of_decide_eq_true (T.ex 39 (f := e_x_InvalidText_cls) rfl)
theorem Tx.x_InvalidText_ve (T : Tx w K mg) : ((PySem.W.clsIn K (ga K "InvalidText")).map fun cd => cd.hasDict && PySem.HandSPX.refsVE (cd.mro.drop 1)) = some true := of_decide_eq_true (T.ex 40 (f := e_x_InvalidText_ve) rfl)
theorem Tx.x_InvalidText_sup (T : Tx w K mg) : PySem.W.ks_superIn K (ga K "InvalidText") (ga K "InvalidText") "__init__" = some (some (.builtin "ValueError.__init__")) := of_decide_eq_true (T.ex 41 (f := e_x_InvalidText_sup) rfl)
theorem Tx.x_InvalidText_sa (T : Tx w K mg) : PySem.W.findIn K (.ref (ga K "InvalidText")) "__setattr__" = some (some (.builtin "object.__setattr__")) := of_decide_eq_true (T.ex 42 (f := e_x_InvalidText_sa) rfl)
theorem Tx.x_InvalidText_ga (T : Tx w K mg) : PySem.W.findIn K (.ref (ga K "InvalidText")) "__getattribute__" = some (some (.builtin "BaseException.__getattribute__")) := of_decide_eq_true (T.ex 43 (f := e_x_InvalidText_ga) rfl)
theorem Tx.x_InvalidText_gg (T : Tx w K mg) : PySem.W.findIn K (.ref (ga K "InvalidText")) "__getattr__" = some none := of_decide_eq_true (T.ex 44 (f := e_x_InvalidText_gg) rfl)
theorem Tx.x_InvalidText_init (T : Tx w K mg) : PySem.W.findIn K (.ref (ga K "InvalidText")) "__init__" = some (some (.ref (ma K (ga K "InvalidText") "__init__"))) := of_decide_eq_true (T.ex 45 (f := e_x_InvalidText_init) rfl)
theorem Tx.x_InvalidText_ity (T : Tx w K mg) : PySem.W.typeIn K (.ref (ma K (ga K "InvalidText") "__init__")) = some (.type "function") := of_decide_eq_true (T.ex 46 (f := e_x_InvalidText_ity) rfl)
theorem Tx.x_InvalidText_sub (T : Tx w K mg) : PySem.W.subIn K (.ref (ga K "InvalidText")) (.type "BaseException") = some true := of_decide_eq_true (T.ex 47 (f := e_x_InvalidText_sub) rfl)
theorem Tx.x_InvalidText_suv (T : Tx w K mg) : PySem.W.subIn K (.ref (ga K "InvalidText")) (.type "ValueError") = some true := of_decide_eq_true (T.ex 48 (f := e_x_InvalidText_suv) rfl)
theorem Tx.x_InvalidText_ty (T : Tx w K mg) : PySem.W.typeIn K (.ref (ga K "InvalidText")) = some (.type "type") := of_decide_eq_true (T.ex 49 (f := e_x_InvalidText_ty) rfl)
theorem Tx.x_InvalidText_hd (T : Tx w K mg) : PySem.W.hasDictIn K (ga K "InvalidText") = true := of_decide_eq_true (T.ex 50 (f := e_x_InvalidText_hd) rfl)
theorem Tx.x_InvalidText_ha (T : Tx w K mg) : PySem.W.findIn K (.ref (ga K "InvalidText")) "__class__" = some (some (.builtin "object.__class__")) := of_decide_eq_true (T.ex 51 (f := e_x_InvalidText_ha) rfl)
theorem Tx.x_InvalidText_hm (T : Tx w K mg) : PySem.W.mroIn K (ga K "InvalidText") (.type "object") = some true := of_decide_eq_true (T.ex 52 (f := e_x_InvalidText_hm) rfl)
theorem Tx.x_InvalidText_kt (T : Tx w K mg) : PySem.W.kitOne K (.ref (ga K "InvalidText")) (.ref (ga K "InvalidText")) = some true := of_decide_eq_true (T.ex 53 (f := e_x_InvalidText_kt) rfl)
theorem Tx.x_InvalidText_cell (T : Tx w K mg) : (match K.lookup (cellOf K (ma K (ga K "InvalidText") "__init__")) with | some ⟨_, _, .cell (some (.ref a)), _⟩ => decide (a = ga K "InvalidText") | _ => false) = true := of_decide_eq_true (T.ex 54 (f := e_x_InvalidText_cell) rfl)
theorem Tx.x_InvalidText_file (T : Tx w K mg) : (match K.lookup (codeAt K (ma K (ga K "InvalidText") "__init__")) with | some ⟨_, _, .fields vs, _⟩ => (match vs[2]? with | some (Value.str f _) => decide (f = prg.main.file) | _ => false) | _ => false) = true := of_decide_eq_true (T.ex 55 (f := e_x_InvalidText_file) rfl)
theorem Tx.x_InvalidText_mro (T : Tx w K mg) : PySem.W.mroIn K (ga K "InvalidText") (.ref (ga K "InvalidText")) = some true := of_decide_eq_true (T.ex 56 (f := e_x_InvalidText_mro) rfl)
theorem Tx.x_InvalidText_no_row (T : Tx w K mg) : PySem.W.findIn K (.ref (ga K "InvalidText")) "row" = some none := of_decide_eq_true (T.ex 57 (f := e_x_InvalidText_no_row) rfl)
theorem Tx.x_InvalidText_no_word (T : Tx w K mg) : PySem.W.findIn K (.ref (ga K "InvalidText")) "word" = some none := of_decide_eq_true (T.ex 58 (f := e_x_InvalidText_no_word) rfl)
theorem Tx.x_InvalidMap_cls (T : Tx w K mg) : PySem.W.excInitIn K (ga K "InvalidMap") veBase "ValueError.__new__" = true := of_decide_eq_true (T.ex 59 (f := e_x_InvalidMap_cls) rfl)
theorem Tx.x_InvalidMap_ve (T : Tx w K mg) : ((PySem.W.clsIn K (ga K "InvalidMap")).map fun cd => cd.hasDict && PySem.HandSPX.refsVE (cd.mro.drop 1)) = some true := of_decide_eq_true (T.ex 60 (f := e_x_InvalidMap_ve) rfl)
theorem Tx.x_InvalidMap_sup (T : Tx w K mg) : PySem.W.ks_superIn K (ga K "InvalidMap") (ga K "InvalidMap") "__init__" = some (some (.builtin "ValueError.__init__")) := of_decide_eq_true (T.ex 61 (f := e_x_InvalidMap_sup) rfl)
theorem Tx.x_InvalidMap_sa (T : Tx w K mg) : PySem.W.findIn K (.ref (ga K "InvalidMap")) "__setattr__" = some (some (.builtin "object.__setattr__")) := of_decide_eq_true (T.ex 62 (f := e_x_InvalidMap_sa) rfl)
theorem Tx.x_InvalidMap_ga (T : Tx w K mg) : PySem.W.findIn K (.ref (ga K "InvalidMap")) "__getattribute__" = some (some (.builtin "BaseException.__getattribute__")) := of_decide_eq_true (T.ex 63 (f := e_x_InvalidMap_ga) rfl)
theorem Tx.x_InvalidMap_gg (T : Tx w K mg) : PySem.W.findIn K (.ref (ga K "InvalidMap")) "__getattr__" = some none := of_decide_eq_true (T.ex 64 (f := e_x_InvalidMap_gg) rfl)
theorem Tx.x_InvalidMap_init (T : Tx w K mg) : PySem.W.findIn K (.ref (ga K "InvalidMap")) "__init__" = some (some (.ref (ma K (ga K "InvalidMap") "__init__"))) := of_decide_eq_true (T.ex 65 (f := e_x_InvalidMap_init) rfl)
theorem Tx.x_InvalidMap_ity (T : Tx w K mg) : PySem.W.typeIn K (.ref (ma K (ga K "InvalidMap") "__init__")) = some (.type "function") := of_decide_eq_true (T.ex 66 (f := e_x_InvalidMap_ity) rfl)
theorem Tx.x_InvalidMap_sub (T : Tx w K mg) : PySem.W.subIn K (.ref (ga K "InvalidMap")) (.type "BaseException") = some true := of_decide_eq_true (T.ex 67 (f := e_x_InvalidMap_sub) rfl)
theorem Tx.x_InvalidMap_suv (T : Tx w K mg) : PySem.W.subIn K (.ref (ga K "InvalidMap")) (.type "ValueError") = some true := of_decide_eq_true (T.ex 68 (f := e_x_InvalidMap_suv) rfl)
theorem Tx.x_InvalidMap_ty (T : Tx w K mg) : PySem.W.typeIn K (.ref (ga K "InvalidMap")) = some (.type "type") := of_decide_eq_true (T.ex 69 (f := e_x_InvalidMap_ty) rfl)
theorem Tx.x_InvalidMap_hd (T : Tx w K mg) : PySem.W.hasDictIn K (ga K "InvalidMap") = true := of_decide_eq_true (T.ex 70 (f := e_x_InvalidMap_hd) rfl)
theorem Tx.x_InvalidMap_ha (T : Tx w K mg) : PySem.W.findIn K (.ref (ga K "InvalidMap")) "__class__" = some (some (.builtin "object.__class__")) := of_decide_eq_true (T.ex 71 (f := e_x_InvalidMap_ha) rfl)
theorem Tx.x_InvalidMap_hm (T : Tx w K mg) : PySem.W.mroIn K (ga K "InvalidMap") (.type "object") = some true := of_decide_eq_true (T.ex 72 (f := e_x_InvalidMap_hm) rfl)
theorem Tx.x_InvalidMap_kt (T : Tx w K mg) : PySem.W.kitOne K (.ref (ga K "InvalidMap")) (.ref (ga K "InvalidText")) = some false := of_decide_eq_true (T.ex 73 (f := e_x_InvalidMap_kt) rfl)
theorem Tx.x_InvalidMap_cell (T : Tx w K mg) : (match K.lookup (cellOf K (ma K (ga K "InvalidMap") "__init__")) with | some ⟨_, _, .cell (some (.ref a)), _⟩ => decide (a = ga K "InvalidMap") | _ => false) = true := of_decide_eq_true (T.ex 74 (f := e_x_InvalidMap_cell) rfl)
theorem Tx.x_InvalidMap_file (T : Tx w K mg) : (match K.lookup (codeAt K (ma K (ga K "InvalidMap") "__init__")) with | some ⟨_, _, .fields vs, _⟩ => (match vs[2]? with | some (Value.str f _) => decide (f = prg.main.file) | _ => false) | _ => false) = true := of_decide_eq_true (T.ex 75 (f := e_x_InvalidMap_file) rfl)
theorem Tx.x_InvalidMap_mro (T : Tx w K mg) : PySem.W.mroIn K (ga K "InvalidMap") (.ref (ga K "InvalidMap")) = some true := of_decide_eq_true (T.ex 76 (f := e_x_InvalidMap_mro) rfl)
theorem Tx.x_InvalidMap_no_index (T : Tx w K mg) : PySem.W.findIn K (.ref (ga K "InvalidMap")) "index" = some none := of_decide_eq_true (T.ex 77 (f := e_x_InvalidMap_no_index) rfl)
theorem Tx.x_ktmm (T : Tx w K mg) : PySem.W.kitOne K (.ref (ga K "InvalidMap")) (.ref (ga K "InvalidMap")) = some true := of_decide_eq_true (T.ex 78 (f := e_x_ktmm) rfl)
theorem Tx.x_hn (T : Tx w K mg) : PySem.W.specialIn K (.builtin "object.__class__") "__get__" = some (some (.builtin "getset_descriptor.__get__")) := of_decide_eq_true (T.ex 79 (f := e_x_hn) rfl)
theorem Tx.x_ht (T : Tx w K mg) : PySem.W.takesIn K (.builtin "object.__class__") = some true := of_decide_eq_true (T.ex 80 (f := e_x_ht) rfl)
theorem Tx.mp_ha (T : Tx w K mg) : PySem.W.findIn K (.ref (ga K "Map")) "__class__" = some (some (.builtin "object.__class__")) := of_decide_eq_true (T.ex 81 (f := e_mp_ha) rfl)
theorem Tx.mp_hm (T : Tx w K mg) : PySem.W.mroIn K (ga K "Map") (.type "object") = some true := of_decide_eq_true (T.ex 82 (f := e_mp_hm) rfl)
theorem Tx.mp_me (T : Tx w K mg) : PySem.W.kitOne K (.ref (ga K "Map")) (.ref (ga K "Map")) = some true := of_decide_eq_true (T.ex 83 (f := e_mp_me) rfl)
theorem Tx.x_op (T : Tx w K mg) : PySem.W.nsIn K cStatics "thirdparty.any" = some none := of_decide_eq_true (T.ex 84 (f := e_x_op) rfl)
theorem Tx.t_HEADS (T : Tx w K mg) : tupAt K (ga K "HEADS") [.str "turn", .str "walk", .str "until", .str "toward", .str "beside", .str "near", .str "shore"] = true := of_decide_eq_true (T.ex 85 (f := e_t_HEADS) rfl)
theorem Tx.t_FACINGS (T : Tx w K mg) : tupAt K (ga K "FACINGS") [.str "north", .str "east", .str "south", .str "west"] = true := of_decide_eq_true (T.ex 86 (f := e_t_FACINGS) rfl)
theorem Tx.fr_turn (T : Tx w K mg) : PySem.W.nsIn K (ga K "FORMS") "turn" = some (some (.ref (frmAt K "turn"))) := of_decide_eq_true (T.ex 87 (f := e_fr_turn) rfl)
theorem Tx.ft_turn (T : Tx w K mg) : tupAt K (frmAt K "turn") [.str "numbers"] = true := of_decide_eq_true (T.ex 88 (f := e_ft_turn) rfl)
theorem Tx.fr_walk (T : Tx w K mg) : PySem.W.nsIn K (ga K "FORMS") "walk" = some (some (.ref (frmAt K "walk"))) := of_decide_eq_true (T.ex 89 (f := e_fr_walk) rfl)
theorem Tx.ft_walk (T : Tx w K mg) : tupAt K (frmAt K "walk") [.str "number", .str "number"] = true := of_decide_eq_true (T.ex 90 (f := e_ft_walk) rfl)
theorem Tx.fr_until (T : Tx w K mg) : PySem.W.nsIn K (ga K "FORMS") "until" = some (some (.ref (frmAt K "until"))) := of_decide_eq_true (T.ex 91 (f := e_fr_until) rfl)
theorem Tx.ft_until (T : Tx w K mg) : tupAt K (frmAt K "until") [.str "signs"] = true := of_decide_eq_true (T.ex 92 (f := e_ft_until) rfl)
theorem Tx.fr_toward (T : Tx w K mg) : PySem.W.nsIn K (ga K "FORMS") "toward" = some (some (.ref (frmAt K "toward"))) := of_decide_eq_true (T.ex 93 (f := e_fr_toward) rfl)
theorem Tx.ft_toward (T : Tx w K mg) : tupAt K (frmAt K "toward") [.str "signs"] = true := of_decide_eq_true (T.ex 94 (f := e_ft_toward) rfl)
theorem Tx.fr_beside (T : Tx w K mg) : PySem.W.nsIn K (ga K "FORMS") "beside" = some (some (.ref (frmAt K "beside"))) := of_decide_eq_true (T.ex 95 (f := e_fr_beside) rfl)
theorem Tx.ft_beside (T : Tx w K mg) : tupAt K (frmAt K "beside") [.str "number", .str "all"] = true := of_decide_eq_true (T.ex 96 (f := e_ft_beside) rfl)
theorem Tx.fr_near (T : Tx w K mg) : PySem.W.nsIn K (ga K "FORMS") "near" = some (some (.ref (frmAt K "near"))) := of_decide_eq_true (T.ex 97 (f := e_fr_near) rfl)
theorem Tx.ft_near (T : Tx w K mg) : tupAt K (frmAt K "near") [.str "all", .str "number"] = true := of_decide_eq_true (T.ex 98 (f := e_ft_near) rfl)
theorem Tx.fr_shore (T : Tx w K mg) : PySem.W.nsIn K (ga K "FORMS") "shore" = some (some (.ref (frmAt K "shore"))) := of_decide_eq_true (T.ex 99 (f := e_fr_shore) rfl)
theorem Tx.ft_shore (T : Tx w K mg) : tupAt K (frmAt K "shore") [.str "number", .str "number", .str "number"] = true := of_decide_eq_true (T.ex 100 (f := e_ft_shore) rfl)
theorem Tx.f_is_number (T : Tx w K mg) : FunD K "is_number" "is_number" (defArgs s_is_number) (defBody s_is_number) (defScope s_is_number) [] [] (ga K "is_number") (fdOf K (ga K "is_number")) := T.fn 0 (d := d_is_number) rfl
theorem Tx.p_is_number (T : Tx w K mg) : Binds K (fdOf K (ga K "is_number")) ["value", "lowest", "highest"] [] := T.f_is_number.bindsN fun _ _ _ _ _ _ us hl => match us, hl with | [_, _, _], _ => rfl
theorem Tx.f_is_rising (T : Tx w K mg) : FunD K "is_rising" "is_rising" (defArgs s_is_rising) (defBody s_is_rising) (defScope s_is_rising) [] [] (ga K "is_rising") (fdOf K (ga K "is_rising")) := T.fn 1 (d := d_is_rising) rfl
theorem Tx.p_is_rising (T : Tx w K mg) : Binds K (fdOf K (ga K "is_rising")) ["values"] [] := T.f_is_rising.bindsN fun _ _ _ _ _ _ us hl => match us, hl with | [_], _ => rfl
theorem Tx.f_are_signs (T : Tx w K mg) : FunD K "are_signs" "are_signs" (defArgs s_are_signs) (defBody s_are_signs) (defScope s_are_signs) [] [] (ga K "are_signs") (fdOf K (ga K "are_signs")) := T.fn 2 (d := d_are_signs) rfl
theorem Tx.p_are_signs (T : Tx w K mg) : Binds K (fdOf K (ga K "are_signs")) ["signs", "known"] [] := T.f_are_signs.bindsN fun _ _ _ _ _ _ us hl => match us, hl with | [_, _], _ => rfl
theorem Tx.f_are_turns (T : Tx w K mg) : FunD K "are_turns" "are_turns" (defArgs s_are_turns) (defBody s_are_turns) (defScope s_are_turns) [] [] (ga K "are_turns") (fdOf K (ga K "are_turns")) := T.fn 3 (d := d_are_turns) rfl
theorem Tx.p_are_turns (T : Tx w K mg) : Binds K (fdOf K (ga K "are_turns")) ["turns"] [] := T.f_are_turns.bindsN fun _ _ _ _ _ _ us hl => match us, hl with | [_], _ => rfl
theorem Tx.f_is_range (T : Tx w K mg) : FunD K "is_range" "is_range" (defArgs s_is_range) (defBody s_is_range) (defScope s_is_range) [] [] (ga K "is_range") (fdOf K (ga K "is_range")) := T.fn 4 (d := d_is_range) rfl
theorem Tx.p_is_range (T : Tx w K mg) : Binds K (fdOf K (ga K "is_range")) ["least", "most"] [] := T.f_is_range.bindsN fun _ _ _ _ _ _ us hl => match us, hl with | [_, _], _ => rfl
theorem Tx.f_is_instruction (T : Tx w K mg) : FunD K "is_instruction" "is_instruction" (defArgs s_is_instruction) (defBody s_is_instruction) (defScope s_is_instruction) [] [] (ga K "is_instruction") (fdOf K (ga K "is_instruction")) := T.fn 5 (d := d_is_instruction) rfl
theorem Tx.p_is_instruction (T : Tx w K mg) : Binds K (fdOf K (ga K "is_instruction")) ["instruction"] [] := T.f_is_instruction.bindsN fun _ _ _ _ _ _ us hl => match us, hl with | [_], _ => rfl
theorem Tx.f_is_number_word (T : Tx w K mg) : FunD K "is_number_word" "is_number_word" (defArgs s_is_number_word) (defBody s_is_number_word) (defScope s_is_number_word) [] [] (ga K "is_number_word") (fdOf K (ga K "is_number_word")) := T.fn 6 (d := d_is_number_word) rfl
theorem Tx.p_is_number_word (T : Tx w K mg) : Binds K (fdOf K (ga K "is_number_word")) ["word"] [] := T.f_is_number_word.bindsN fun _ _ _ _ _ _ us hl => match us, hl with | [_], _ => rfl
theorem Tx.f_is_sign_word (T : Tx w K mg) : FunD K "is_sign_word" "is_sign_word" (defArgs s_is_sign_word) (defBody s_is_sign_word) (defScope s_is_sign_word) [] [] (ga K "is_sign_word") (fdOf K (ga K "is_sign_word")) := T.fn 7 (d := d_is_sign_word) rfl
theorem Tx.p_is_sign_word (T : Tx w K mg) : Binds K (fdOf K (ga K "is_sign_word")) ["word", "known"] [] := T.f_is_sign_word.bindsN fun _ _ _ _ _ _ us hl => match us, hl with | [_, _], _ => rfl
theorem Tx.f_lines_of (T : Tx w K mg) : FunD K "lines_of" "lines_of" (defArgs s_lines_of) (defBody s_lines_of) (defScope s_lines_of) [] [] (ga K "lines_of") (fdOf K (ga K "lines_of")) := T.fn 8 (d := d_lines_of) rfl
theorem Tx.p_lines_of (T : Tx w K mg) : Binds K (fdOf K (ga K "lines_of")) ["text"] [] := T.f_lines_of.bindsN fun _ _ _ _ _ _ us hl => match us, hl with | [_], _ => rfl
theorem Tx.f_read_island (T : Tx w K mg) : FunD K "read_island" "read_island" (defArgs s_read_island) (defBody s_read_island) (defScope s_read_island) [] [] (ga K "read_island") (fdOf K (ga K "read_island")) := T.fn 9 (d := d_read_island) rfl
theorem Tx.p_read_island (T : Tx w K mg) : Binds K (fdOf K (ga K "read_island")) ["lines"] [] := T.f_read_island.bindsN fun _ _ _ _ _ _ us hl => match us, hl with | [_], _ => rfl
theorem Tx.f_read_begin (T : Tx w K mg) : FunD K "read_begin" "read_begin" (defArgs s_read_begin) (defBody s_read_begin) (defScope s_read_begin) [] [] (ga K "read_begin") (fdOf K (ga K "read_begin")) := T.fn 10 (d := d_read_begin) rfl
theorem Tx.p_read_begin (T : Tx w K mg) : Binds K (fdOf K (ga K "read_begin")) ["line"] [] := T.f_read_begin.bindsN fun _ _ _ _ _ _ us hl => match us, hl with | [_], _ => rfl
theorem Tx.f_parse_map (T : Tx w K mg) : FunD K "parse_map" "parse_map" (defArgs s_parse_map) (defBody s_parse_map) (defScope s_parse_map) [] [] (ga K "parse_map") (fdOf K (ga K "parse_map")) := T.fn 11 (d := d_parse_map) rfl
theorem Tx.p_parse_map (T : Tx w K mg) : Binds K (fdOf K (ga K "parse_map")) ["text"] [] := T.f_parse_map.bindsN fun _ _ _ _ _ _ us hl => match us, hl with | [_], _ => rfl
theorem Tx.f__law_mix (T : Tx w K mg) : FunD K "_law_mix" "_law_mix" (defArgs s__law_mix) (defBody s__law_mix) (defScope s__law_mix) [] [] (ga K "_law_mix") (fdOf K (ga K "_law_mix")) := T.fn 12 (d := d__law_mix) rfl
theorem Tx.p__law_mix (T : Tx w K mg) : Binds K (fdOf K (ga K "_law_mix")) ["_law_script", "_law_seed"] [] := T.f__law_mix.bindsN fun _ _ _ _ _ _ us hl => match us, hl with | [_, _], _ => rfl
theorem Tx.f__law_next (T : Tx w K mg) : FunD K "_law_next" "_law_next" (defArgs s__law_next) (defBody s__law_next) (defScope s__law_next) [] [] (ga K "_law_next") (fdOf K (ga K "_law_next")) := T.fn 13 (d := d__law_next) rfl
theorem Tx.p__law_next (T : Tx w K mg) : Binds K (fdOf K (ga K "_law_next")) ["_law_h", "_law_limit"] [] := T.f__law_next.bindsN fun _ _ _ _ _ _ us hl => match us, hl with | [_, _], _ => rfl
theorem Tx.f__law_alike (T : Tx w K mg) : FunD K "_law_alike" "_law_alike" (defArgs s__law_alike) (defBody s__law_alike) (defScope s__law_alike) [] [] (ga K "_law_alike") (fdOf K (ga K "_law_alike")) := T.fn 14 (d := d__law_alike) rfl
theorem Tx.p__law_alike (T : Tx w K mg) : Binds K (fdOf K (ga K "_law_alike")) ["_law_found", "_law_due"] [] := T.f__law_alike.bindsN fun _ _ _ _ _ _ us hl => match us, hl with | [_, _], _ => rfl
theorem Tx.f__law_rows (T : Tx w K mg) : FunD K "_law_rows" "_law_rows" (defArgs s__law_rows) (defBody s__law_rows) (defScope s__law_rows) [] [] (ga K "_law_rows") (fdOf K (ga K "_law_rows")) := T.fn 15 (d := d__law_rows) rfl
theorem Tx.p__law_rows (T : Tx w K mg) : Binds K (fdOf K (ga K "_law_rows")) ["_law_h", "_law_most"] [] := T.f__law_rows.bindsN fun _ _ _ _ _ _ us hl => match us, hl with | [_, _], _ => rfl
theorem Tx.f__law_sign (T : Tx w K mg) : FunD K "_law_sign" "_law_sign" (defArgs s__law_sign) (defBody s__law_sign) (defScope s__law_sign) [] [] (ga K "_law_sign") (fdOf K (ga K "_law_sign")) := T.fn 16 (d := d__law_sign) rfl
theorem Tx.p__law_sign (T : Tx w K mg) : Binds K (fdOf K (ga K "_law_sign")) ["_law_rows_here", "_law_cell"] [] := T.f__law_sign.bindsN fun _ _ _ _ _ _ us hl => match us, hl with | [_, _], _ => rfl
theorem Tx.f__law_cells (T : Tx w K mg) : FunD K "_law_cells" "_law_cells" (defArgs s__law_cells) (defBody s__law_cells) (defScope s__law_cells) [] [] (ga K "_law_cells") (fdOf K (ga K "_law_cells")) := T.fn 17 (d := d__law_cells) rfl
theorem Tx.p__law_cells (T : Tx w K mg) : Binds K (fdOf K (ga K "_law_cells")) ["_law_rows_here"] [] := T.f__law_cells.bindsN fun _ _ _ _ _ _ us hl => match us, hl with | [_], _ => rfl
theorem Tx.f__law_on (T : Tx w K mg) : FunD K "_law_on" "_law_on" (defArgs s__law_on) (defBody s__law_on) (defScope s__law_on) [] [] (ga K "_law_on") (fdOf K (ga K "_law_on")) := T.fn 18 (d := d__law_on) rfl
theorem Tx.p__law_on (T : Tx w K mg) : Binds K (fdOf K (ga K "_law_on")) ["_law_cell", "_law_facing"] [] := T.f__law_on.bindsN fun _ _ _ _ _ _ us hl => match us, hl with | [_, _], _ => rfl
theorem Tx.f__law_line (T : Tx w K mg) : FunD K "_law_line" "_law_line" (defArgs s__law_line) (defBody s__law_line) (defScope s__law_line) [] [] (ga K "_law_line") (fdOf K (ga K "_law_line")) := T.fn 19 (d := d__law_line) rfl
theorem Tx.p__law_line (T : Tx w K mg) : Binds K (fdOf K (ga K "_law_line")) ["_law_rows_here", "_law_cell", "_law_facing"] [] := T.f__law_line.bindsN fun _ _ _ _ _ _ us hl => match us, hl with | [_, _, _], _ => rfl
theorem Tx.f__law_shore (T : Tx w K mg) : FunD K "_law_shore" "_law_shore" (defArgs s__law_shore) (defBody s__law_shore) (defScope s__law_shore) [] [] (ga K "_law_shore") (fdOf K (ga K "_law_shore")) := T.fn 20 (d := d__law_shore) rfl
theorem Tx.p__law_shore (T : Tx w K mg) : Binds K (fdOf K (ga K "_law_shore")) ["_law_rows_here", "_law_state", "_law_side"] [] := T.f__law_shore.bindsN fun _ _ _ _ _ _ us hl => match us, hl with | [_, _, _], _ => rfl
theorem Tx.f__law_steps (T : Tx w K mg) : FunD K "_law_steps" "_law_steps" (defArgs s__law_steps) (defBody s__law_steps) (defScope s__law_steps) [] [] (ga K "_law_steps") (fdOf K (ga K "_law_steps")) := T.fn 21 (d := d__law_steps) rfl
theorem Tx.p__law_steps (T : Tx w K mg) : Binds K (fdOf K (ga K "_law_steps")) ["_law_rows_here", "_law_state", "_law_instruction"] [] := T.f__law_steps.bindsN fun _ _ _ _ _ _ us hl => match us, hl with | [_, _, _], _ => rfl
theorem Tx.f__law_behind (T : Tx w K mg) : FunD K "_law_behind" "_law_behind" (defArgs s__law_behind) (defBody s__law_behind) (defScope s__law_behind) [] [] (ga K "_law_behind") (fdOf K (ga K "_law_behind")) := T.fn 22 (d := d__law_behind) rfl
theorem Tx.p__law_behind (T : Tx w K mg) : Binds K (fdOf K (ga K "_law_behind")) ["_law_rows_here", "_law_states", "_law_instruction"] [] := T.f__law_behind.bindsN fun _ _ _ _ _ _ us hl => match us, hl with | [_, _, _], _ => rfl
theorem Tx.f__law_begin (T : Tx w K mg) : FunD K "_law_begin" "_law_begin" (defArgs s__law_begin) (defBody s__law_begin) (defScope s__law_begin) [] [] (ga K "_law_begin") (fdOf K (ga K "_law_begin")) := T.fn 23 (d := d__law_begin) rfl
theorem Tx.p__law_begin (T : Tx w K mg) : Binds K (fdOf K (ga K "_law_begin")) ["_law_drawn_here"] [] := T.f__law_begin.bindsN fun _ _ _ _ _ _ us hl => match us, hl with | [_], _ => rfl
theorem Tx.f__law_final (T : Tx w K mg) : FunD K "_law_final" "_law_final" (defArgs s__law_final) (defBody s__law_final) (defScope s__law_final) [] [] (ga K "_law_final") (fdOf K (ga K "_law_final")) := T.fn 24 (d := d__law_final) rfl
theorem Tx.p__law_final (T : Tx w K mg) : Binds K (fdOf K (ga K "_law_final")) ["_law_drawn_here"] [] := T.f__law_final.bindsN fun _ _ _ _ _ _ us hl => match us, hl with | [_], _ => rfl
theorem Tx.f__law_signs (T : Tx w K mg) : FunD K "_law_signs" "_law_signs" (defArgs s__law_signs) (defBody s__law_signs) (defScope s__law_signs) [] [] (ga K "_law_signs") (fdOf K (ga K "_law_signs")) := T.fn 25 (d := d__law_signs) rfl
theorem Tx.p__law_signs (T : Tx w K mg) : Binds K (fdOf K (ga K "_law_signs")) ["_law_h", "_law_known"] [] := T.f__law_signs.bindsN fun _ _ _ _ _ _ us hl => match us, hl with | [_, _], _ => rfl
theorem Tx.f__law_turns (T : Tx w K mg) : FunD K "_law_turns" "_law_turns" (defArgs s__law_turns) (defBody s__law_turns) (defScope s__law_turns) [] [] (ga K "_law_turns") (fdOf K (ga K "_law_turns")) := T.fn 26 (d := d__law_turns) rfl
theorem Tx.p__law_turns (T : Tx w K mg) : Binds K (fdOf K (ga K "_law_turns")) ["_law_h"] [] := T.f__law_turns.bindsN fun _ _ _ _ _ _ us hl => match us, hl with | [_], _ => rfl
theorem Tx.f__law_one (T : Tx w K mg) : FunD K "_law_one" "_law_one" (defArgs s__law_one) (defBody s__law_one) (defScope s__law_one) [] [] (ga K "_law_one") (fdOf K (ga K "_law_one")) := T.fn 27 (d := d__law_one) rfl
theorem Tx.p__law_one (T : Tx w K mg) : Binds K (fdOf K (ga K "_law_one")) ["_law_h"] [] := T.f__law_one.bindsN fun _ _ _ _ _ _ us hl => match us, hl with | [_], _ => rfl
theorem Tx.f__law_drawn (T : Tx w K mg) : FunD K "_law_drawn" "_law_drawn" (defArgs s__law_drawn) (defBody s__law_drawn) (defScope s__law_drawn) [] [] (ga K "_law_drawn") (fdOf K (ga K "_law_drawn")) := T.fn 28 (d := d__law_drawn) rfl
theorem Tx.p__law_drawn (T : Tx w K mg) : Binds K (fdOf K (ga K "_law_drawn")) ["_law_h", "_law_size", "_law_most"] [] := T.f__law_drawn.bindsN fun _ _ _ _ _ _ us hl => match us, hl with | [_, _, _], _ => rfl
theorem Tx.f__law_text_of (T : Tx w K mg) : FunD K "_law_text_of" "_law_text_of" (defArgs s__law_text_of) (defBody s__law_text_of) (defScope s__law_text_of) [] [] (ga K "_law_text_of") (fdOf K (ga K "_law_text_of")) := T.fn 29 (d := d__law_text_of) rfl
theorem Tx.p__law_text_of (T : Tx w K mg) : Binds K (fdOf K (ga K "_law_text_of")) ["_law_drawn_here"] [] := T.f__law_text_of.bindsN fun _ _ _ _ _ _ us hl => match us, hl with | [_], _ => rfl
theorem Tx.f__law_parts (T : Tx w K mg) : FunD K "_law_parts" "_law_parts" (defArgs s__law_parts) (defBody s__law_parts) (defScope s__law_parts) [] [] (ga K "_law_parts") (fdOf K (ga K "_law_parts")) := T.fn 30 (d := d__law_parts) rfl
theorem Tx.p__law_parts (T : Tx w K mg) : Binds K (fdOf K (ga K "_law_parts")) ["_law_word"] [] := T.f__law_parts.bindsN fun _ _ _ _ _ _ us hl => match us, hl with | [_], _ => rfl
theorem Tx.f__law_is_number (T : Tx w K mg) : FunD K "_law_is_number" "_law_is_number" (defArgs s__law_is_number) (defBody s__law_is_number) (defScope s__law_is_number) [] [] (ga K "_law_is_number") (fdOf K (ga K "_law_is_number")) := T.fn 31 (d := d__law_is_number) rfl
theorem Tx.p__law_is_number (T : Tx w K mg) : Binds K (fdOf K (ga K "_law_is_number")) ["_law_word"] [] := T.f__law_is_number.bindsN fun _ _ _ _ _ _ us hl => match us, hl with | [_], _ => rfl
theorem Tx.f__law_is_signs (T : Tx w K mg) : FunD K "_law_is_signs" "_law_is_signs" (defArgs s__law_is_signs) (defBody s__law_is_signs) (defScope s__law_is_signs) [] [] (ga K "_law_is_signs") (fdOf K (ga K "_law_is_signs")) := T.fn 32 (d := d__law_is_signs) rfl
theorem Tx.p__law_is_signs (T : Tx w K mg) : Binds K (fdOf K (ga K "_law_is_signs")) ["_law_word", "_law_water"] [] := T.f__law_is_signs.bindsN fun _ _ _ _ _ _ us hl => match us, hl with | [_, _], _ => rfl
theorem Tx.f__law_part_at (T : Tx w K mg) : FunD K "_law_part_at" "_law_part_at" (defArgs s__law_part_at) (defBody s__law_part_at) (defScope s__law_part_at) [] [] (ga K "_law_part_at") (fdOf K (ga K "_law_part_at")) := T.fn 33 (d := d__law_part_at) rfl
theorem Tx.p__law_part_at (T : Tx w K mg) : Binds K (fdOf K (ga K "_law_part_at")) ["_law_words", "_law_at", "_law_part"] [] := T.f__law_part_at.bindsN fun _ _ _ _ _ _ us hl => match us, hl with | [_, _, _], _ => rfl
theorem Tx.f__law_row_at (T : Tx w K mg) : FunD K "_law_row_at" "_law_row_at" (defArgs s__law_row_at) (defBody s__law_row_at) (defScope s__law_row_at) [] [] (ga K "_law_row_at") (fdOf K (ga K "_law_row_at")) := T.fn 34 (d := d__law_row_at) rfl
theorem Tx.p__law_row_at (T : Tx w K mg) : Binds K (fdOf K (ga K "_law_row_at")) ["_law_words"] [] := T.f__law_row_at.bindsN fun _ _ _ _ _ _ us hl => match us, hl with | [_], _ => rfl
theorem Tx.f__law_begin_at (T : Tx w K mg) : FunD K "_law_begin_at" "_law_begin_at" (defArgs s__law_begin_at) (defBody s__law_begin_at) (defScope s__law_begin_at) [] [] (ga K "_law_begin_at") (fdOf K (ga K "_law_begin_at")) := T.fn 35 (d := d__law_begin_at) rfl
theorem Tx.p__law_begin_at (T : Tx w K mg) : Binds K (fdOf K (ga K "_law_begin_at")) ["_law_words"] [] := T.f__law_begin_at.bindsN fun _ _ _ _ _ _ us hl => match us, hl with | [_], _ => rfl
theorem Tx.f__law_island_at (T : Tx w K mg) : FunD K "_law_island_at" "_law_island_at" (defArgs s__law_island_at) (defBody s__law_island_at) (defScope s__law_island_at) [] [] (ga K "_law_island_at") (fdOf K (ga K "_law_island_at")) := T.fn 36 (d := d__law_island_at) rfl
theorem Tx.p__law_island_at (T : Tx w K mg) : Binds K (fdOf K (ga K "_law_island_at")) ["_law_rows_here"] [] := T.f__law_island_at.bindsN fun _ _ _ _ _ _ us hl => match us, hl with | [_], _ => rfl
theorem Tx.f__law_read (T : Tx w K mg) : FunD K "_law_read" "_law_read" (defArgs s__law_read) (defBody s__law_read) (defScope s__law_read) [] [] (ga K "_law_read") (fdOf K (ga K "_law_read")) := T.fn 37 (d := d__law_read) rfl
theorem Tx.p__law_read (T : Tx w K mg) : Binds K (fdOf K (ga K "_law_read")) ["_law_lines"] [] := T.f__law_read.bindsN fun _ _ _ _ _ _ us hl => match us, hl with | [_], _ => rfl
theorem Tx.f__law_wrong_index (T : Tx w K mg) : FunD K "_law_wrong_index" "_law_wrong_index" (defArgs s__law_wrong_index) (defBody s__law_wrong_index) (defScope s__law_wrong_index) [] [] (ga K "_law_wrong_index") (fdOf K (ga K "_law_wrong_index")) := T.fn 38 (d := d__law_wrong_index) rfl
theorem Tx.p__law_wrong_index (T : Tx w K mg) : Binds K (fdOf K (ga K "_law_wrong_index")) ["_law_drawn_here"] [] := T.f__law_wrong_index.bindsN fun _ _ _ _ _ _ us hl => match us, hl with | [_], _ => rfl
theorem Tx.f__law_bent (T : Tx w K mg) : FunD K "_law_bent" "_law_bent" (defArgs s__law_bent) (defBody s__law_bent) (defScope s__law_bent) [] [] (ga K "_law_bent") (fdOf K (ga K "_law_bent")) := T.fn 39 (d := d__law_bent) rfl
theorem Tx.p__law_bent (T : Tx w K mg) : Binds K (fdOf K (ga K "_law_bent")) ["_law_h", "_law_lines"] [] := T.f__law_bent.bindsN fun _ _ _ _ _ _ us hl => match us, hl with | [_, _], _ => rfl
theorem Tx.f__law_seen (T : Tx w K mg) : FunD K "_law_seen" "_law_seen" (defArgs s__law_seen) (defBody s__law_seen) (defScope s__law_seen) [] [] (ga K "_law_seen") (fdOf K (ga K "_law_seen")) := T.fn 40 (d := d__law_seen) rfl
theorem Tx.p__law_seen (T : Tx w K mg) : Binds K (fdOf K (ga K "_law_seen")) ["_law_text"] [] := T.f__law_seen.bindsN fun _ _ _ _ _ _ us hl => match us, hl with | [_], _ => rfl
theorem Tx.f_law (T : Tx w K mg) : FunD K "law" "law" (defArgs s_law) (defBody s_law) (defScope s_law) [] [] (ga K "law") (fdOf K (ga K "law")) := T.fn 41 (d := d_law) rfl
theorem Tx.p_law (T : Tx w K mg) : Binds K (fdOf K (ga K "law")) ["_law_script"] [] := T.f_law.bindsN fun _ _ _ _ _ _ us hl => match us, hl with | [_], _ => rfl
theorem Tx.f_Island_init (T : Tx w K mg) : FunD K "__init__" "Island.__init__" (defArgs s_Island_init) (defBody s_Island_init) (defScope s_Island_init) [] [] (ma K (ga K "Island") "__init__") (fdOf K (ma K (ga K "Island") "__init__")) := T.fn 42 (d := d_Island_init) rfl
theorem Tx.p_Island_init (T : Tx w K mg) : Binds K (fdOf K (ma K (ga K "Island") "__init__")) ["self", "rows"] [] := T.f_Island_init.bindsN fun _ _ _ _ _ _ us hl => match us, hl with | [_, _], _ => rfl
theorem Tx.f_Map_init (T : Tx w K mg) : FunD K "__init__" "Map.__init__" (defArgs s_Map_init) (defBody s_Map_init) (defScope s_Map_init) [] [] (ma K (ga K "Map") "__init__") (fdOf K (ma K (ga K "Map") "__init__")) := T.fn 43 (d := d_Map_init) rfl
theorem Tx.p_Map_init (T : Tx w K mg) : Binds K (fdOf K (ma K (ga K "Map") "__init__")) ["self", "island", "signs", "facings", "instructions"] [] := T.f_Map_init.bindsN fun _ _ _ _ _ _ us hl => match us, hl with | [_, _, _, _, _], _ => rfl
theorem Tx.f_Line_init (T : Tx w K mg) : FunD K "__init__" "Line.__init__" (defArgs s_Line_init) (defBody s_Line_init) (defScope s_Line_init) [] [] (ma K (ga K "Line") "__init__") (fdOf K (ma K (ga K "Line") "__init__")) := T.fn 44 (d := d_Line_init) rfl
theorem Tx.p_Line_init (T : Tx w K mg) : Binds K (fdOf K (ma K (ga K "Line") "__init__")) ["self", "number", "words"] [] := T.f_Line_init.bindsN fun _ _ _ _ _ _ us hl => match us, hl with | [_, _, _], _ => rfl
theorem Tx.f_Line_fail (T : Tx w K mg) : FunD K "fail" "Line.fail" (defArgs s_Line_fail) (defBody s_Line_fail) (defScope s_Line_fail) [] [] (ma K (ga K "Line") "fail") (fdOf K (ma K (ga K "Line") "fail")) := T.fn 45 (d := d_Line_fail) rfl
theorem Tx.p_Line_fail (T : Tx w K mg) : Binds K (fdOf K (ma K (ga K "Line") "fail")) ["self"] [] := T.f_Line_fail.bindsN fun _ _ _ _ _ _ us hl => match us, hl with | [_], _ => rfl
theorem Tx.f_Line_is_over (T : Tx w K mg) : FunD K "is_over" "Line.is_over" (defArgs s_Line_is_over) (defBody s_Line_is_over) (defScope s_Line_is_over) [] [] (ma K (ga K "Line") "is_over") (fdOf K (ma K (ga K "Line") "is_over")) := T.fn 46 (d := d_Line_is_over) rfl
theorem Tx.p_Line_is_over (T : Tx w K mg) : Binds K (fdOf K (ma K (ga K "Line") "is_over")) ["self"] [] := T.f_Line_is_over.bindsN fun _ _ _ _ _ _ us hl => match us, hl with | [_], _ => rfl
theorem Tx.f_Line_take (T : Tx w K mg) : FunD K "take" "Line.take" (defArgs s_Line_take) (defBody s_Line_take) (defScope s_Line_take) [] [] (ma K (ga K "Line") "take") (fdOf K (ma K (ga K "Line") "take")) := T.fn 47 (d := d_Line_take) rfl
theorem Tx.p_Line_take (T : Tx w K mg) : Binds K (fdOf K (ma K (ga K "Line") "take")) ["self"] [] := T.f_Line_take.bindsN fun _ _ _ _ _ _ us hl => match us, hl with | [_], _ => rfl
theorem Tx.f_Line_take_word (T : Tx w K mg) : FunD K "take_word" "Line.take_word" (defArgs s_Line_take_word) (defBody s_Line_take_word) (defScope s_Line_take_word) [] [] (ma K (ga K "Line") "take_word") (fdOf K (ma K (ga K "Line") "take_word")) := T.fn 48 (d := d_Line_take_word) rfl
theorem Tx.p_Line_take_word (T : Tx w K mg) : Binds K (fdOf K (ma K (ga K "Line") "take_word")) ["self", "known"] [] := T.f_Line_take_word.bindsN fun _ _ _ _ _ _ us hl => match us, hl with | [_, _], _ => rfl
theorem Tx.f_Line_take_number (T : Tx w K mg) : FunD K "take_number" "Line.take_number" (defArgs s_Line_take_number) (defBody s_Line_take_number) (defScope s_Line_take_number) [] [] (ma K (ga K "Line") "take_number") (fdOf K (ma K (ga K "Line") "take_number")) := T.fn 49 (d := d_Line_take_number) rfl
theorem Tx.p_Line_take_number (T : Tx w K mg) : Binds K (fdOf K (ma K (ga K "Line") "take_number")) ["self"] [] := T.f_Line_take_number.bindsN fun _ _ _ _ _ _ us hl => match us, hl with | [_], _ => rfl
theorem Tx.f_Line_take_signs (T : Tx w K mg) : FunD K "take_signs" "Line.take_signs" (defArgs s_Line_take_signs) (defBody s_Line_take_signs) (defScope s_Line_take_signs) [] [] (ma K (ga K "Line") "take_signs") (fdOf K (ma K (ga K "Line") "take_signs")) := T.fn 50 (d := d_Line_take_signs) rfl
theorem Tx.p_Line_take_signs (T : Tx w K mg) : Binds K (fdOf K (ma K (ga K "Line") "take_signs")) ["self", "known"] [] := T.f_Line_take_signs.bindsN fun _ _ _ _ _ _ us hl => match us, hl with | [_, _], _ => rfl
theorem Tx.f_Line_take_part (T : Tx w K mg) : FunD K "take_part" "Line.take_part" (defArgs s_Line_take_part) (defBody s_Line_take_part) (defScope s_Line_take_part) [] [] (ma K (ga K "Line") "take_part") (fdOf K (ma K (ga K "Line") "take_part")) := T.fn 51 (d := d_Line_take_part) rfl
theorem Tx.p_Line_take_part (T : Tx w K mg) : Binds K (fdOf K (ma K (ga K "Line") "take_part")) ["self", "form"] [] := T.f_Line_take_part.bindsN fun _ _ _ _ _ _ us hl => match us, hl with | [_, _], _ => rfl
theorem Tx.f_Line_take_instruction (T : Tx w K mg) : FunD K "take_instruction" "Line.take_instruction" (defArgs s_Line_take_instruction) (defBody s_Line_take_instruction) (defScope s_Line_take_instruction) [] [] (ma K (ga K "Line") "take_instruction") (fdOf K (ma K (ga K "Line") "take_instruction")) := T.fn 52 (d := d_Line_take_instruction) rfl
theorem Tx.p_Line_take_instruction (T : Tx w K mg) : Binds K (fdOf K (ma K (ga K "Line") "take_instruction")) ["self"] [] := T.f_Line_take_instruction.bindsN fun _ _ _ _ _ _ us hl => match us, hl with | [_], _ => rfl
theorem Tx.f_Line_end (T : Tx w K mg) : FunD K "end" "Line.end" (defArgs s_Line_end) (defBody s_Line_end) (defScope s_Line_end) [] [] (ma K (ga K "Line") "end") (fdOf K (ma K (ga K "Line") "end")) := T.fn 53 (d := d_Line_end) rfl
theorem Tx.p_Line_end (T : Tx w K mg) : Binds K (fdOf K (ma K (ga K "Line") "end")) ["self"] [] := T.f_Line_end.bindsN fun _ _ _ _ _ _ us hl => match us, hl with | [_], _ => rfl
theorem Tx.f_Island_rows (T : Tx w K mg) : FunD K "rows" "Island.rows" (defArgs s_Island_rows) (defBody s_Island_rows) (defScope s_Island_rows) [] [] (pg K "Island" "rows") (fdOf K (pg K "Island" "rows")) := T.fn 54 (d := d_Island_rows) rfl
theorem Tx.p_Island_rows (T : Tx w K mg) : Binds K (fdOf K (pg K "Island" "rows")) ["self"] [] := T.f_Island_rows.bindsN fun _ _ _ _ _ _ us hl => match us, hl with | [_], _ => rfl
theorem Tx.f_Map_island (T : Tx w K mg) : FunD K "island" "Map.island" (defArgs s_Map_island) (defBody s_Map_island) (defScope s_Map_island) [] [] (pg K "Map" "island") (fdOf K (pg K "Map" "island")) := T.fn 55 (d := d_Map_island) rfl
theorem Tx.p_Map_island (T : Tx w K mg) : Binds K (fdOf K (pg K "Map" "island")) ["self"] [] := T.f_Map_island.bindsN fun _ _ _ _ _ _ us hl => match us, hl with | [_], _ => rfl
theorem Tx.f_Map_signs (T : Tx w K mg) : FunD K "signs" "Map.signs" (defArgs s_Map_signs) (defBody s_Map_signs) (defScope s_Map_signs) [] [] (pg K "Map" "signs") (fdOf K (pg K "Map" "signs")) := T.fn 56 (d := d_Map_signs) rfl
theorem Tx.p_Map_signs (T : Tx w K mg) : Binds K (fdOf K (pg K "Map" "signs")) ["self"] [] := T.f_Map_signs.bindsN fun _ _ _ _ _ _ us hl => match us, hl with | [_], _ => rfl
theorem Tx.f_Map_facings (T : Tx w K mg) : FunD K "facings" "Map.facings" (defArgs s_Map_facings) (defBody s_Map_facings) (defScope s_Map_facings) [] [] (pg K "Map" "facings") (fdOf K (pg K "Map" "facings")) := T.fn 57 (d := d_Map_facings) rfl
theorem Tx.p_Map_facings (T : Tx w K mg) : Binds K (fdOf K (pg K "Map" "facings")) ["self"] [] := T.f_Map_facings.bindsN fun _ _ _ _ _ _ us hl => match us, hl with | [_], _ => rfl
theorem Tx.f_Map_instructions (T : Tx w K mg) : FunD K "instructions" "Map.instructions" (defArgs s_Map_instructions) (defBody s_Map_instructions) (defScope s_Map_instructions) [] [] (pg K "Map" "instructions") (fdOf K (pg K "Map" "instructions")) := T.fn 58 (d := d_Map_instructions) rfl
theorem Tx.p_Map_instructions (T : Tx w K mg) : Binds K (fdOf K (pg K "Map" "instructions")) ["self"] [] := T.f_Map_instructions.bindsN fun _ _ _ _ _ _ us hl => match us, hl with | [_], _ => rfl
end
end Om
end PartFa
section PartHr
set_option Elab.async false
set_option linter.all false
set_option maxRecDepth 100000
set_option maxHeartbeats 0
namespace Om
open PySem PySem.W PySem.Calls PyProof.Rows He
abbrev R : OpenRow := OpenLaw.row PySem.Challenge.rw_oldmap_k49_whole_wrong_texts_located
abbrev qv : Program := view R.prog [78]
def n1 : List PySem.Str := ["_wall", "MapError", "InvalidIsland", "InvalidMap", "UnknownCell", "InvalidText", "LAND", "WATER", "LETTERS", "MAX_SIZE", "is_number", "Island", "TURN", "WALK", "UNTIL", "TOWARD", "BESIDE", "NEAR", "SHORE", "MAX_PACES", "MAX_FAR", "RIGHT", "LEFT", "is_rising", "are_signs", "are_turns", "is_range", "is_instruction"]
def n2 : List PySem.Str := ["MAX_INSTRUCTIONS", "Map", "ISLAND", "FROM", "FACINGS", "DIGITS", "HEADS", "FORMS", "is_number_word", "is_sign_word", "Line", "lines_of", "read_island", "read_begin", "parse_map"]
def n3 : List PySem.Str := ["_law_mix", "_law_next", "_law_alike", "_law_rows", "_law_sign", "_law_cells", "_law_on", "_law_line", "_law_shore", "_law_steps", "_law_behind", "_law_begin", "_law_final", "_law_signs", "_law_turns", "_law_one", "_law_drawn", "_law_text_of", "_law_parts", "_law_is_number", "_law_is_signs", "_law_part_at", "_law_row_at", "_law_begin_at", "_law_island_at", "_law_read", "_law_wrong_index", "_law_bent", "_law_seen"]
def names : List PySem.Str := n1 ++ n2 ++ n3
def ob (s : PySem.W.SharedT) : AlO := obsOG s.n (HandSHeadRun.getT s)
theorem ob_eq (s : PySem.W.SharedT) : ob s = hookO.obs s.abs := by
  have e : HandSHeadRun.getT s = s.abs.heap.get? := funext (HandSHeadRun.getT_eq s)
  have e2 : s.abs.heap.objs.size = s.n := absHeap_size s.tree s.n _
  show obsOG s.n (HandSHeadRun.getT s) = obsOG s.abs.heap.objs.size s.abs.heap.get?
  rw [e, e2]
theorem run_ff (w : World) : HandSHeadRun.RunEq R qv hookO ob 6000 names (w.withFollow "special-get-raises" false) := by
  intro os
  kernel_rfl
theorem run_tt (w : World) : HandSHeadRun.RunEq R qv hookO ob 6000 names (w.withFollow "special-get-raises" true) := by
  intro os
  kernel_rfl
theorem run (w : World) : HandSHeadRun.RunEq R qv hookO ob 6000 names w :=
  byRow2 "special-get-raises" (P := fun w => HandSHeadRun.RunEq R qv hookO ob 6000 names w) run_ff run_tt w
end Om
end PartHr
section PartHd
set_option Elab.async false
set_option linter.all false
set_option maxRecDepth 100000
set_option maxHeartbeats 0
open PySem PySem.W PySem.Calls PyProof.Rows
theorem Om.holds_of {k : Nat} {spL : PySem.W.Frag → L2.Sp} (hr : L2.Room k callerA)
    (hS : ∀ (K : PySem.W.Frag) (H : L2.Hp) (a : Addr) (ns : List Int), ns.length ≤ 63 → L2.SqL K H a (ns.map L2.V.int) → spL K [.ref a] H (fun v _ => v = .bl true) fun _ _ _ => False)
    (ok : ∀ (w : World) (K : PySem.W.Frag) (mg : PySem.Str → Option Value) (base : Heap), Om.Tx w K mg → L2.FnOk Om.prg w K mg base L2.CX0 k (He.ga K "law") (Om.fdOf K (He.ga K "law")) ["_law_script"] (spL K)) : PySem.Challenge.rw_oldmap_k49_whole_wrong_texts_located.Holds := by
  w_on; o_law
  refine HandSHeadRun.head_any (r := OpenLaw.row PySem.Challenge.rw_oldmap_k49_whole_wrong_texts_located) (q := view (OpenLaw.row PySem.Challenge.rw_oldmap_k49_whole_wrong_texts_located).prog [78]) (H := Om.hookO) (ob := Om.ob) (M := 6000) (loose := Om.names) (d := HandSHeadRun.topDef (OpenLaw.row PySem.Challenge.rw_oldmap_k49_whole_wrong_texts_located).prog 78) (kwd := []) Om.ob_eq
    (by kernel_rfl) (fun s => by kernel_rfl) Om.run (by kernel_rfl) (by kernel_rfl) (by kernel_rfl) (by rfl) (by first | assumption | decide +kernel) (by decide +kernel) ⟨rfl, rfl, rfl, rfl, rfl, by decide +kernel⟩ ?hw ?hc
  case hw => w_witness2
  case hc =>
    refine L2.walk_ofE (l := PySem.Challenge.rw_oldmap_k49_whole_wrong_texts_located) (n := 63) (k := k) (x := "_law_script") (CX := L2.CX0) rfl (by decide) (by kernel_rfl) hr ?F (fun _ _ _ _ z => z)
    intro w mg fa h Y G hmg0
    obtain ⟨K, KX, c⟩ := Y
    have T : Om.Tx w K mg := ⟨⟨h, KX, G⟩, c⟩
    have hmg : mg ("law" : PySem.Str) = some (.ref fa) := by
      have e : (HandSHeadRun.topDef (OpenLaw.row PySem.Challenge.rw_oldmap_k49_whole_wrong_texts_located).prog 78).name = ("law" : PySem.Str) := by kernel_rfl
      rw [← e]
      exact hmg0
    have e := hmg.symm.trans T.g_law
    cases e
    have b := L2.FunD.bindsA (ps := ["_law_script"]) T.f_law fun _ _ _ _ _ _ us hl => match us, hl with | [_], _ => rfl
    exact ⟨K, _, spL K, KX, fun s v => b s [v] rfl, fun H a ns hl _ hs => hS K H a ns hl hs, fun base _ _ => ok w K mg base T⟩
end PartHd
section PartRu3
set_option Elab.async false
set_option linter.all false
set_option maxRecDepth 100000
set_option maxHeartbeats 4000000
/-! Rule: the making of an exception C(k = v, ..) whose __init__ says super().__init__(text) and stores its keyword-only arguments. -/
namespace Om
open PySem PySem.W PySem.Calls PyProof.Rows PySem.HandSPX
/-- what the written part says of such a class (at C, its __init__ at f, the cell of __class__ at cc, the code at cda) -/
structure XTx (K : Frg) (mg : Str → Option Value) (st : Stmt) (qual : Str) (C f cc cda : Addr) : Prop where
  cls : excInitIn K C He.veBase "ValueError.__new__" = true
  ve : ((clsIn K C).map fun cd => cd.hasDict && refsVE (cd.mro.drop 1)) = some true
  sup : ks_superIn K C C "__init__" = some (some (.builtin "ValueError.__init__"))
  sa : findIn K (.ref C) "__setattr__" = some (some (.builtin "object.__setattr__"))
  init : findIn K (.ref C) "__init__" = some (some (.ref f))
  ity : typeIn K (.ref f) = some (.type "function")
  sub : subIn K (.ref C) (.type "BaseException") = some true
  suv : subIn K (.ref C) (.type "ValueError") = some true
  mro : mroIn K C (.ref C) = some true
  any : nsIn K cStatics "thirdparty.any" = some none
  bsup : mg "super" = none
  fn : ∃ (oc : Value) (od : Option Addr) (kV doc pm : Value) (an : Option Addr) (ct : Value) (osl : Array (Option Value)),
    K.lookup f = some ⟨oc, od, .func (fnX "__init__" qual (L2.defArgs st) (L2.defBody st) (L2.defScope st) [("__class__", cc)] .none kV doc pm an (.ref cda) ct), osl⟩ ∧ codeIn K (.ref cda) qual = true
  cell : ∃ oc od osl, K.lookup cc = some ⟨oc, od, .cell (some (.ref C)), osl⟩
  file : ∃ oc od vs osl tf, K.lookup cda = some ⟨oc, od, .fields vs, osl⟩ ∧ vs[2]? = some (.str prg.main.file tf)
section
variable {w : World} {K : Frg} {mg : Str → Option Value} {st : Stmt} {qual : Str} {C f cc cda : Addr}
/-- the class's object -/
theorem XTx.obj (T : XTx K mg st qual C f cc cda) {h : Heap} (X : K.In h) : ∃ nm N qn bs bm sn sub ab col dd k0 k1 k2 k3 k5,
    h.get? C = some (excClassObj nm qn C N bs bm true sn sub ab col dd k0 k1 k2 k3 k5 "ValueError.__new__") ∧ (∀ X : String, bm.contains (.type X) = He.veBase.contains (.type X)) ∧ refsVE bm = true ∧
    ∃ cd, clsIn K C = some cd ∧ cd.hasDict = true ∧ refsVE cd.mro = true ∧ cd.mro = .ref C :: bm := by
  obtain ⟨nm, N, qn, bs, bm, hdct, sn, sub, ab, col, dd, k0, k1, k2, k3, k5, hC, hT⟩ := excInit_of X T.cls
  have hv := T.ve
  cases e : clsIn K C with
  | none => rw [e] at hv; cases hv
  | some cd =>
    rw [e] at hv
    obtain ⟨h1, h2⟩ := He.ba (show (cd.hasDict && refsVE (cd.mro.drop 1)) = true from Option.some.inj hv)
    have e0 := e
    unfold clsIn at e0
    split at e0
    · rename_i c d cd' sl ho
      cases e0
      have hg := X _ _ ho
      rw [hC] at hg
      cases hg
      have h1' : hdct = true := h1
      subst h1'
      exact ⟨nm, N, qn, bs, bm, sn, sub, ab, col, dd, k0, k1, k2, k3, k5, hC, hT, h2, _, rfl, rfl, h2, rfl⟩
    · cases e0
end
/-! ### ValueError.__init__ bound to the object, called -/
section
variable {prog : Program} {w : World} {A : Around} {E : Value → Shared → Prop} {h : Heap} {g : Array GenState} {d : Drawn} {t : Nat} {os : OsState}
variable {nm q : Str} {C N : Addr} {bs bm : List Value} {hdct : Bool} {sn : List Str} {sub : List Value} {ab : Bool} {col : Option Bool} {dd : Option Addr} {k0 k1 k2 k3 k5 : Option Value}
theorem call_mw {u e t0 : Addr} {rest : List Value} {Q : Value → Shared → Prop}
    (hC : h.get? C = some (excClassObj nm q C N bs bm hdct sn sub ab col dd k0 k1 k2 k3 k5 "ValueError.__new__")) (he : h.get? e = some (excO C t0)) (hu : h.get? u = some (kxs_mw "ValueError.__init__" e)) (hrest : rest.length ≤ sizeLine)
    (hq : ∀ (h' : Heap) (t1 : Addr), (∀ b o, b ≠ e → h.get? b = some o → h'.get? b = some o) → h'.get? e = some (excO C t1) → Q .none ⟨h', g, d, t, os⟩) :
    wpAny (model prog w) A (call (.ref u) rest) Q E ⟨h, g, d, t, os⟩ := by
  refine wpAny_call (codeAny_of_tree ?_)
  show wpAny _ A.in1 (callAny (.ref u) ⟨rest, []⟩) _ _ _
  simp only [callAny]
  refine wpAny_bind (wpAny_load hu ?_)
  simp only [kxs_mw, show (Value.type "method-wrapper" == Value.type "method" || Value.type "method-wrapper" == Value.type "builtin_function_or_method" || Value.type "method-wrapper" == Value.type "method-wrapper") = true by decide, if_true]
  refine KFB.if_so (by decide) ?_
  refine wpAny_bind (PySem.ESX.check_bound F.excBase_ValueError hC he rfl ?_)
  refine wpAny_bind (wpAny_pure (wpAny_pure ?_))
  refine ⟨Code.quiet_builtin _ (by decide +kernel), codeAny_builtin F.excBase_ValueError.initEntry ?_⟩
  rw [Around.under_plainId F.excBase_ValueError.init.plain _]
  wp_walk
  refine hq _ h.objs.size (fun b o hb ho => ?_) ?_
  · rw [Heap.get?_update_other _ _ (Ne.symm hb)]
    exact Heap.get?_push_of_some _ ho
  · rw [Heap.get?_update_self _ (Heap.get?_push_of_some _ he) rfl] <;> rfl
end

/-! ### C(k = v, ..): BaseException.__new__ and the own __init__ with keywords -/
section
variable {prog : Program} {w : World} {A : Around} {E : Value → Shared → Prop} {R : Result → Shared → Prop} {h : Heap} {g : Array GenState} {d : Drawn} {t : Nat} {os : OsState}
variable {nm q : Str} {C N : Addr} {bs bm bmB : List Value} {hdct : Bool} {sn : List Str} {sub : List Value} {ab : Bool} {col : Option Bool} {dd : Option Addr} {k0 k1 k2 k3 k5 : Option Value} {B newId initId : String} {kw : List (Str × Value)}
theorem kcheck_new {M : Model} (F : ExcBaseFacts B newId initId bmB) (hT : ∀ X : String, bm.contains (.type X) = bmB.contains (.type X)) {rest : List Value} {Q : Unit → Shared → Prop}
    (hC : h.get? C = some (excClassObj nm q C N bs bm hdct sn sub ab col dd k0 k1 k2 k3 k5 newId)) (hq : Q () ⟨h, g, d, t, os⟩) : wpAny M A (checkBuiltinCall newId ⟨.ref C :: rest, kw⟩) Q E ⟨h, g, d, t, os⟩ := by
  have hcont : (Value.ref C :: bm).contains (.type B) = true := by rw [List.contains_cons, hT, F.hasB, Bool.or_true]
  have hstar := F.noStar
  simp only [checkBuiltinCall, F.newKind, F.newSplit, F.newRow]
  repeat (first | refine wpAny_loadPart_at hC ?_ | (refine wpAny_isSubtype_exc hC ?_; rw [hcont]) | refine wpAny_staticBase_exc hC ?_ | refine wpAny_madeBy_exc hC ?_ | simp only [bne_self_eq_false, Bool.false_eq_true, if_false] | wp_step)
  exact hq
theorem knew_own (F : ExcBaseFacts B newId initId bmB) (hT : ∀ X : String, bm.contains (.type X) = bmB.contains (.type X)) {rest : List Value}
    (hC : h.get? C = some (excClassObj nm q C N bs bm hdct sn sub ab col dd k0 k1 k2 k3 k5 newId))
    (hq : R (.ok (.ret (.ref (h.objs.size + 1)))) ⟨(h.push { cls := .type "tuple", data := .seq rest.toArray }).push
      { cls := .ref C, data := .fields #[.ref h.objs.size, .none, .none, .none, .bool false, .none] }, g, d, t, os⟩) (hrest : rest.length ≤ sizeLine) :
    codeAny (model prog w) A (.builtin newId ⟨.ref C :: rest, kw⟩) R ⟨h, g, d, t, os⟩ := by
  have hends := F.ends
  have hcB : (Value.ref C :: bm).contains (.type B) = true := by rw [List.contains_cons, hT, F.hasB, Bool.or_true]
  have hcA : (Value.ref C :: bm).contains (.type "AttributeError") = false := by rw [List.contains_cons, hT, F.noAttr]; rfl
  have hcN : (Value.ref C :: bm).contains (.type "NameError") = false := by rw [List.contains_cons, hT, F.noName]; rfl
  refine codeAny_builtinAt F.entry ?_
  unfold Builtin.«BaseException.__new__»
  refine PySem.wpAt_bind ?_
  show PySem.wpAt _ _ _ (stack >>= _) _ _ _
  refine PySem.wpAt_bind (PySem.wpAt_stack fun p below => PySem.wpAt_of_wpAny ?_)
  wp_walk
  refine PySem.wpAt_of_wpAny ?_
  rw [F.owner]
  repeat (first | with_reducible refine wpAny_madeHere_exc F.canon hC ?_ | with_reducible refine wpAny_loadPart_at hC ?_ | (with_reducible refine wpAny_isSubtype_exc hC ?_; first | rw [hcB] | rw [hcA] | rw [hcN]) | wp_step)
  show R _ _
  rw [Heap.size_push]
  exact hq
theorem ktype_own (F : ExcBaseFacts B newId initId bmB) (hT : ∀ X : String, bm.contains (.type X) = bmB.contains (.type X)) {rest : List Value} {fI : Addr} {Q : Fin → Shared → Prop}
    (hC : h.get? C = some (excClassObj nm q C N bs bm hdct sn sub ab col dd k0 k1 k2 k3 k5 newId))
    (hi : Looks (model prog w) h (typeLookup (.ref C) "__init__") (some (.ref fI))) (hb : ∀ self, Looks (model prog w) h (bindSpecial (.ref fI) self) (.ref fI, [self])) (hrest : rest.length ≤ sizeLine)
    (hq : codeAny (model prog w) A (.call (.ref fI) ⟨.ref (h.objs.size + 1) :: rest, kw⟩)
      (fun r s' => match r with | .ok (.ret v) => v = .none ∧ Q (.done (.ret (.ref (h.objs.size + 1)))) s' | .ok _ => False | .error e => E e s')
      ⟨(h.push (kdv_tup rest)).push (excO C h.objs.size), g, d, t, os⟩) :
    wpAny (model prog w) A (Builtin.«type.__call__» ⟨.ref C :: rest, kw⟩) Q E ⟨h, g, d, t, os⟩ := by
  repeat (first | with_reducible refine wpAny_loadPart_at hC ?_ | with_reducible refine wpAny_madeBy_exc hC ?_ | wp_step)
  refine codeAny_call_builtin_code (Code.quiet_builtin _ F.quiet) (kcheck_new F hT hC ?_)
  refine knew_own F hT hC ?_ hrest
  show wpAny _ _ _ _ _ _
  have k : ∀ b o, h.get? b = some o → ((h.push (kdv_tup rest)).push (excO C h.objs.size)).get? b = some o := fun b o e => Heap.get?_push_of_some _ (Heap.get?_push_of_some _ e)
  have hC₁ := k _ _ hC
  have hget : ((h.push (kdv_tup rest)).push (excO C h.objs.size)).get? (h.objs.size + 1) = some (excO C h.objs.size) := by heap_get
  have hcC : (Value.ref C :: bm).contains (.ref C) = true := by simp
  have i1 := hi.keeps k
  have b1 := (hb (.ref (h.objs.size + 1))).keeps k
  unfold isInstance
  repeat (first | with_reducible refine wpAny_loadPart_at hget ?_ | (with_reducible refine wpAny_isSubtype_exc hC₁ ?_; rw [hcC]) | wp_step)
  show wpAny _ _ (typeLookup (.ref C) _) _ _ _
  refine i1.at ?_
  refine wpAny_holding (wpAny_bind (b1.at ?_))
  refine wpAny_bind (wpAny_call (codeAny_mono hq fun r s' z => ?_))
  rcases r with e | (v | _ | _ | _) <;> first | exact z | exact z.elim | skip
  obtain ⟨rfl, z⟩ := z
  first
    | exact wpAny_pure (wpAny_pure z)
    | (wp_walk; exact z)
theorem kcheck_type {M : Model} {rest : List Value} {Q : Unit → Shared → Prop} (hC : h.get? C = some (excClassObj nm q C N bs bm hdct sn sub ab col dd k0 k1 k2 k3 k5 newId))
    (hq : Q () ⟨h, g, d, t, os⟩) : wpAny M A (checkBuiltinCall "type.__call__" ⟨.ref C :: rest, kw⟩) Q E ⟨h, g, d, t, os⟩ := by
  have f3 := tc_sub
  have hT : (⟨h, g, d, t, os⟩ : Shared).TypeIs (.ref C) "type" := ⟨_, hC, rfl⟩
  simp only [checkBuiltinCall, tc_kind, tc_split]
  repeat (any_goals (first | assumption | with_reducible refine wpAny_loadPart_at hC ?_ | with_reducible refine wpAny_onRaise ?_ | with_reducible refine wpAny_map ?_ | wp_step))
theorem kcall_own (F : ExcBaseFacts B newId initId bmB) (hT : ∀ X : String, bm.contains (.type X) = bmB.contains (.type X)) {rest : List Value} {fI : Addr}
    (hC : h.get? C = some (excClassObj nm q C N bs bm hdct sn sub ab col dd k0 k1 k2 k3 k5 newId))
    (hi : Looks (model prog w) h (typeLookup (.ref C) "__init__") (some (.ref fI))) (hb : ∀ self, Looks (model prog w) h (bindSpecial (.ref fI) self) (.ref fI, [self])) (hrest : rest.length ≤ sizeLine)
    (hq : codeAny (model prog w) (A.under (.builtin "type.__call__" ⟨.ref C :: rest, kw⟩)) (.call (.ref fI) ⟨.ref (h.objs.size + 1) :: rest, kw⟩) (InitBack (h.objs.size + 1) R)
      ⟨(h.push (kdv_tup rest)).push (excO C h.objs.size), g, d, t, os⟩) :
    codeAny (model prog w) A (.call (.ref C) ⟨rest, kw⟩) R ⟨h, g, d, t, os⟩ := by
  have f1 := tc_lookup
  have f2 := tc_bind (.ref C)
  have hTy : (⟨h, g, d, t, os⟩ : Shared).TypeIs (.ref C) "type" := ⟨_, hC, rfl⟩
  refine codeAny_of_tree ?_
  show wpAny _ _ (callAny (.ref C) _) _ _ _
  repeat (any_goals (first | assumption | with_reducible refine wpAny_loadPart_at hC ?_ | wp_step))
  refine ⟨rfl, ?_⟩
  refine codeAny_call_builtin_at (Code.quiet_builtin _ (by decide +kernel)) entry_typeCall (kcheck_type hC (ktype_own F hT hC hi hb hrest ?_))
  refine codeAny_mono hq fun r s' z => ?_
  rcases r with e | (v | _ | _ | _) <;> exact z
end

/-! ### the statements of such an __init__ -/
/-- super().__init__(text) -/
abbrev supSt (text : Str) (i3 : Nat) (p0 p1 p2 p3 p4 p5 : Pos) : Stmt := .Expr (.Call (.Attribute (.Call (.Name "super" p0) [] [] p1) "__init__" p2) [.Constant (.str text) i3 p3] [] p4) p5
section
variable {w : World} {K : Frg} {mg : Str → Option Value} {st : Stmt} {qual : Str} {C f cc cda L x : Addr} {A : Around} {E : Value → Shared → Prop} {s : Shared} {base : Heap}
theorem sup_stmt {body : List Stmt} {t0 : Addr} {m : Str → Option Value} {text : Str} {i3 : Nat} {p0 p1 p2 p3 p4 p5 : Pos} {Q : Flow → Shared → Prop} {ar : Arg} (T : XTx K mg st qual C f cc cda) (M : L2.Mod K mg base) (k : ∀ b o, base.get? b = some o → s.heap.get? b = some o)
    (hx : s.heap.get? x = some (excO C t0)) (hns : s.heap.Ns L m) (hp : ((L2.defArgs st).posonlyargs ++ (L2.defArgs st).args).head? = some ar) (hself : m ar.arg = some (.ref x))
    (hks : (L2.defScope st).names.lookup ("super" : Str) = some .globalImplicit) (hkc : (L2.defScope st).names.lookup ("__class__" : Str) = some .free) (hka : (L2.defScope st).names.lookup ar.arg = some .local) (hk : (L2.defScope st).kind = .function) (hi : interactive (ksEnv qual (L2.defScope st) L f (.ref cda) cc) = false)
    (he : ∃ pl : Sem Bool, eval (.Call (.Attribute (.Call (.Name "super" p0) [] [] p1) "__init__" p2) [.Constant (.str text) i3 p3] [] p4) (ksEnv qual (L2.defScope st) L f (.ref cda) cc) = (do
      let ov ← attributeBase (.Call (.Name "super" p0) [] [] p1) "__init__" (ksEnv qual (L2.defScope st) L f (.ref cda) cc) (eval (.Call (.Name "super" p0) [] [] p1) (ksEnv qual (L2.defScope st) L f (.ref cda) cc))
      standAt p2.atName
      let (fv, first) ← holding [ov] (getMethod ov "__init__" pl)
      callWith p4 fv first (backTo p4 (starEach [.Constant (.str text) i3 p3] (ksEnv qual (L2.defScope st) L f (.ref cda) cc))) []))
    (h : ∀ h' t1 tk', (∀ b o, b ≠ x → s.heap.get? b = some o → h'.get? b = some o) → h'.get? x = some (excO C t1) → Q .next { s with heap := h', toks := tk' }) :
    PySem.wpAt (model prg w) A (.func body (ksEnv qual (L2.defScope st) L f (.ref cda) cc)) (exec (supSt text i3 p0 p1 p2 p3 p4 p5) (ksEnv qual (L2.defScope st) L f (.ref cda) cc)) Q E s := by
  have X : K.In s.heap := M.kin.keeps k
  obtain ⟨oc, od, kV, doc, pm, an, ct, osl, lk, hcd⟩ := T.fn
  obtain ⟨nm, N, qn, bs, bm, sn, sub, ab, col, dd, k0, k1, k2, k3, k5, hC, hT, hbm, cd, hcl, hh, hm, hmro⟩ := T.obj X
  obtain ⟨c1, c2, c3, lcell⟩ := T.cell
  obtain ⟨f1, f2, f3, f4, f5, lcode, hvs⟩ := T.file
  obtain ⟨mb, hb1, hb2⟩ := M.blt
  obtain ⟨pl, he⟩ := he
  refine ks_wpAt_Expr_any (ks_wpAt_MethodCall ?_ he) hi
  refine ks_wpAt_super_base (env := ksEnv qual (L2.defScope st) L f (.ref cda) cc) hks hkc (by decide) rfl (X _ _ lk) rfl hp rfl (X _ _ lcode) rfl hvs (beq_self_eq_true _) (by decide +kernel) ?_
  refine ks_loadName_global hk hks (loadGlobal_builtin (env := ksEnv qual (L2.defScope st) L f (.ref cda) cc) (M.glob.keeps k) T.bsup (hb1.keeps k) ((hb2 _ (by decide)).trans Boot.super) ⟨rfl, ?_⟩)
  refine wpAny_loadName_free hk hkc rfl ⟨_, X _ _ lcell, rfl⟩ ?_
  refine wpAny_loadName_local hk hka hns hself ?_
  refine ks_wpAny_isType_cls hC rfl ⟨rfl, ?_⟩
  obtain ⟨hp0, g, d, t, os⟩ := s
  refine ks_wpAny_call_super hC rfl hx rfl (fun c e => by cases e) (looks_mroIn X T.mro) (fun h1 e1 k1' => ?_)
  have X1 : K.In h1 := fun b o e => k1' b o (X b o e)
  have I1 : InstAt h1 x (excO C t0) C none := ⟨k1' _ _ hx, rfl, rfl, trivial⟩
  have hsup : alongIn K "__init__" ((cd.mro.dropWhile (· != .ref C)).drop 1) = some (some (.builtin "ValueError.__init__")) := by
    have z := T.sup
    unfold ks_superIn at z
    rw [hcl] at z
    exact z
  refine kxs_getMethod kxs_ValueError e1 (looks_opaque X1 T.any) (l₀ := cd.mro) (fun A Q E s k q => wpAny_bind ((looks_clsIn X1 hcl) A _ E s k (wpAny_pure q))) rfl X1 hsup
    (I1.type.andThen (looks_subIn X1 T.suv)) (ks_ne X1 I1 hcl) (by decide) ?_
  refine kxs_callWith (i := "ValueError.__init__") (x := x) rfl (evalArgs_plain (rest := []) ?_)
  refine spliced_cons (Constant_str (k := i3) (pos := p3) (spliced_nil ⟨Heap.get?_push_at rfl rfl, ?_⟩))
  have up : ∀ b o, h1.get? b = some o → (h1.push (kxs_mw "ValueError.__init__" x)).get? b = some o := fun b o e => Heap.get?_push_of_some _ e
  refine call_mw (e := x) (up _ _ (k1' _ _ hC)) (up _ _ (k1' _ _ hx)) (Heap.get?_push_at rfl rfl) (by rw [sizeLine_eq]; simp) (fun h' t1 k2 e2 => ?_)
  exact h h' t1 _ (fun b o hb ho => k2 b o hb (up _ _ (k1' _ _ ho))) e2
end
section
variable {w : World} {K : Frg} {C x dx L : Addr} {A : Around} {E : Value → Shared → Prop} {s : Shared} {env : Env} {m : Str → Option Value}
theorem ldA {y : Str} {p : Pos} {v : Value} {Q : Value → Shared → Prop} (hns : s.heap.Ns env.locals m) (hv : m y = some v) (hk : env.scope.kind = .function) (hl : env.kindOf y = some .local) (hd : (y == ("__debug__" : Str)) = false) (h : Q v s) : wpAny (model prg w) A (eval (.Name y p) env) Q E s :=
  wpAny_Name (wpAny_loadName_local hk hl hns hv h) hd
theorem set_first {t0 : Addr} {fld y z : Str} {p1 p2 p3 p4 : Pos} {u : Value} {cd : ClassData} {Q : Flow → Shared → Prop} (X : K.In s.heap) (hx : s.heap.get? x = some (excO C t0)) (hns : s.heap.Ns env.locals m) (hz : m z = some (.ref x)) (hy : m y = some u) (hk : env.scope.kind = .function)
    (hlz : env.kindOf z = some .local) (hly : env.kindOf y = some .local) (hdz : (z == ("__debug__" : Str)) = false) (hdy : (y == ("__debug__" : Str)) = false)
    (hsa : findIn K (.ref C) "__setattr__" = some (some (.builtin "object.__setattr__"))) (hcl : clsIn K C = some cd) (hm : refsVE cd.mro = true) (hh : cd.hasDict = true) (hno : findIn K (.ref C) fld = some none)
    (hs : swapsWith (.Name y p3) (some (.Attribute (.Name z p1) fld p2)) p4.line env = pure false)
    (h : ∀ h' tk' dx, (∀ b o, b ≠ x → s.heap.get? b = some o → h'.get? b = some o) → s.heap.objs.size ≤ dx → dx ≠ x → h'.get? x = some ({ cls := .ref C, dict := some dx, data := .fields #[.ref t0, .none, .none, .none, .bool false, .none] } : Obj) →
      h'.Ns1 dx (fun y => if y = fld then some u else none) → Q .next { s with heap := h', toks := tk' }) :
    wpAny (model prg w) A (exec (.Assign [.Attribute (.Name z p1) fld p2] (.Name y p3) p4) env) Q E s := by
  refine plainObj_wpAny_Assign_Attribute (ldA hns hy hk hly hdy (ldA hns hz hk hlz hdz ?_)) hs
  obtain ⟨hp, g, d, t, os⟩ := s
  refine set_plain X (ox := excO C t0) (od := none) ⟨hx, rfl, rfl, trivial⟩ hsa ?_
  exact exc_osa X hx hcl hm hh hno fun h' tk' dx k dn dne hx' hn => h h' tk' dx k dn dne hx' hn
theorem set_next {t0 : Addr} {fld y z : Str} {p1 p2 p3 p4 : Pos} {u : Value} {cd : ClassData} {m0 : Str → Option Value} {nl : List Str} {Q : Flow → Shared → Prop} (X : K.In s.heap)
    (hx : s.heap.get? x = some ({ cls := .ref C, dict := some dx, data := .fields #[.ref t0, .none, .none, .none, .bool false, .none] } : Obj)) (hd : s.heap.Ns1 dx m0) (hw : Within m0 nl) (hzl : nl.length ≤ 1000)
    (hns : s.heap.Ns env.locals m) (hz : m z = some (.ref x)) (hy : m y = some u) (hk : env.scope.kind = .function)
    (hlz : env.kindOf z = some .local) (hly : env.kindOf y = some .local) (hdz : (z == ("__debug__" : Str)) = false) (hdy : (y == ("__debug__" : Str)) = false)
    (hsa : findIn K (.ref C) "__setattr__" = some (some (.builtin "object.__setattr__"))) (hcl : clsIn K C = some cd) (hm : refsVE cd.mro = true) (hh : cd.hasDict = true) (hno : findIn K (.ref C) fld = some none)
    (hs : swapsWith (.Name y p3) (some (.Attribute (.Name z p1) fld p2)) p4.line env = pure false)
    (h : ∀ h' tk', (∀ b o, b ≠ dx → s.heap.get? b = some o → h'.get? b = some o) → h'.Ns1 dx (fun y => if y = fld then some u else m0 y) → Q .next { s with heap := h', toks := tk' }) :
    wpAny (model prg w) A (exec (.Assign [.Attribute (.Name z p1) fld p2] (.Name y p3) p4) env) Q E s := by
  refine plainObj_wpAny_Assign_Attribute (ldA hns hy hk hly hdy (ldA hns hz hk hlz hdz ?_)) hs
  obtain ⟨oD, _, _, hoD, _, _⟩ := hd.count hw
  obtain ⟨hp, g, d, t, os⟩ := s
  refine set_plain X (ox := { cls := .ref C, dict := some dx, data := .fields #[.ref t0, .none, .none, .none, .bool false, .none] }) (od := some oD) ⟨hx, rfl, rfl, hoD⟩ hsa ?_
  exact PySem.OEX.osa_old X hx hd hw hzl hcl hm hh hno fun h' tk' k hn => h h' tk' k hn
end

/-! ### the two __init__s run -/
/-- what is left when one has run: the exception at x, its dict at dx -/
abbrev XLeft (C x : Addr) (hp : Heap) (mA : Str → Option Value) (g : Array GenState) (d : Drawn) (os : OsState) (R : Result → Shared → Prop) : Prop :=
  ∀ (h' : Heap) (tk' : Nat) (dx t1 : Addr), (∀ b o, b ≠ x → hp.get? b = some o → h'.get? b = some o) → hp.objs.size ≤ dx → dx ≠ x →
    h'.get? x = some ({ cls := .ref C, dict := some dx, data := .fields #[.ref t1, .none, .none, .none, .bool false, .none] } : Obj) → h'.Ns1 dx mA → R (.ok (.ret .none)) ⟨h', g, d, tk', os⟩
section
variable {w : World} {K : Frg} {mg : Str → Option Value} {C f cc cda x t0 : Addr} {A : Around} {base : Heap} {hp : Heap} {g : Array GenState} {d : Drawn} {t : Nat} {os : OsState} {R : Result → Shared → Prop}
theorem run_IM {u : Value} (T : XTx K mg s_InvalidMap_init "InvalidMap.__init__" C f cc cda) (M : L2.Mod K mg base) (k : ∀ b o, base.get? b = some o → hp.get? b = some o) (hr : A.depth < recursionLimit) (hx : hp.get? x = some (excO C t0)) (hb : base.get? x = none) (no0 : findIn K (.ref C) "index" = some none)
    (h : XLeft C x hp (fun y => if y = "index" then some u else none) g d os R) : codeAny (model prg w) A (.call (.ref f) ⟨[.ref x], [("index", u)]⟩) R ⟨hp, g, d, t, os⟩ := by
  have X : K.In hp := M.kin.keeps k
  obtain ⟨oc, od, kV, doc, pm, an, ct, osl, lk, hcd⟩ := id T.fn
  obtain ⟨nm, N, qn, bs, bm, sn, sub, ab, col, dd, k0, k1, k2, k3, k5, hC, hT, hbm, cd, hcl, hh, hm, hmro⟩ := T.obj X
  refine ks_codeAny_call_defAt (fd := fnX "__init__" "InvalidMap.__init__" (L2.defArgs s_InvalidMap_init) (L2.defBody s_InvalidMap_init) (L2.defScope s_InvalidMap_init) [("__class__", cc)] .none kV doc pm an (.ref cda) ct) (body := L2.defBody s_InvalidMap_init)
    (binds := [(("self" : Str), Value.ref x), ("index", u)]) hr (X _ _ lk) rfl (M.nolimit.keeps k) (codeRec_of X hcd) rfl (BindsTo.of_eq (by first | rfl | kernel_rfl)) (show ∀ x ∈ (L2.defScope s_InvalidMap_init).names, x.2 ≠ .cell by decide +kernel)
    (fun y hy => by
      simp only [List.mem_cons, List.not_mem_nil, or_false] at hy
      rcases hy with rfl | rfl
      · exact (show (L2.defScope s_InvalidMap_init).names.lookup ("self" : Str) = some NameKind.local by decide +kernel)
      · exact (show (L2.defScope s_InvalidMap_init).names.lookup ("index" : Str) = some NameKind.local by decide +kernel)) (fun h0 hns kk => ?_)
    (show (L2.defScope s_InvalidMap_init).isCoroutine = false by decide +kernel) (show (L2.defScope s_InvalidMap_init).isGenerator = false by decide +kernel) (show (L2.defScope s_InvalidMap_init).kind = .function by decide +kernel)
  show PySem.wpAt (model prg w) (A.deeper (ksEnv "InvalidMap.__init__" (L2.defScope s_InvalidMap_init) hp.objs.size f (.ref cda) cc)) (.func (L2.defBody s_InvalidMap_init) (ksEnv "InvalidMap.__init__" (L2.defScope s_InvalidMap_init) hp.objs.size f (.ref cda) cc)) (execs (L2.defBody s_InvalidMap_init) (ksEnv "InvalidMap.__init__" (L2.defScope s_InvalidMap_init) hp.objs.size f (.ref cda) cc)) _ _ _
  have hxL : hp.objs.size ≠ x := Ne.symm (Nat.ne_of_lt (Heap.lt_size hx))
  have es : (fun y => List.lookup y ([(("self" : Str), Value.ref x), ("index", u)]).reverse) "self" = some (.ref x) := rfl
  have e0 : (fun y => List.lookup y ([(("self" : Str), Value.ref x), ("index", u)]).reverse) "index" = some u := rfl
  have xC : ∀ b o, base.get? b = some o → b ≠ x := fun b o e z => by rw [z, hb] at e; cases e
  refine ks_wpAt_execs_cons (sup_stmt T M (fun b o e => kk b o (k b o e)) (kk _ _ hx) hns (ar := _) rfl es (by decide +kernel) (by decide +kernel) (by decide +kernel) (by decide +kernel) rfl ⟨_, rfl⟩ (fun h1 t1 tk1 s1 x1 => ?_))
  have hk : (L2.defScope s_InvalidMap_init).kind = .function := by decide +kernel
  have hl0 : (L2.defScope s_InvalidMap_init).names.lookup ("self" : Str) = some NameKind.local := by decide +kernel
  have hl1 : (L2.defScope s_InvalidMap_init).names.lookup ("index" : Str) = some NameKind.local := by decide +kernel
  obtain ⟨oL, esL, epL, hL, rL⟩ := hns
  have ns1 : h1.Ns hp.objs.size _ := ⟨oL, esL, epL, s1 _ _ hxL hL, rL⟩
  have X1 : K.In h1 := M.kin.keeps fun b o e => s1 b o (xC b o e) (kk b o (k b o e))
  refine PySem.wpAt_of_wpAny (wpAny_execs_cons (set_first (env := ksEnv "InvalidMap.__init__" (L2.defScope s_InvalidMap_init) hp.objs.size f (.ref cda) cc) X1 x1 ns1 es e0 hk hl0 hl1 (by decide) (by decide) T.sa hcl hm hh no0 rfl (fun h2 tk2 dx s2 dn dne x2 n2 => ?_)))
  exact wpAny_execs_nil (h h2 tk2 dx t1 (fun b o hb e => s2 b o hb (s1 b o hb (kk b o e))) (Nat.le_of_lt (Nat.lt_of_lt_of_le (Heap.lt_size (s1 _ _ hxL hL)) dn)) dne x2 n2)
theorem run_IT {u1 u2 : Value} (T : XTx K mg s_InvalidText_init "InvalidText.__init__" C f cc cda) (M : L2.Mod K mg base) (k : ∀ b o, base.get? b = some o → hp.get? b = some o) (hr : A.depth < recursionLimit) (hx : hp.get? x = some (excO C t0)) (hb : base.get? x = none) (no0 : findIn K (.ref C) "row" = some none) (no1 : findIn K (.ref C) "word" = some none)
    (h : XLeft C x hp (fun y => if y = "word" then some u2 else if y = "row" then some u1 else none) g d os R) : codeAny (model prg w) A (.call (.ref f) ⟨[.ref x], [("row", u1), ("word", u2)]⟩) R ⟨hp, g, d, t, os⟩ := by
  have X : K.In hp := M.kin.keeps k
  obtain ⟨oc, od, kV, doc, pm, an, ct, osl, lk, hcd⟩ := id T.fn
  obtain ⟨nm, N, qn, bs, bm, sn, sub, ab, col, dd, k0, k1, k2, k3, k5, hC, hT, hbm, cd, hcl, hh, hm, hmro⟩ := T.obj X
  refine ks_codeAny_call_defAt (fd := fnX "__init__" "InvalidText.__init__" (L2.defArgs s_InvalidText_init) (L2.defBody s_InvalidText_init) (L2.defScope s_InvalidText_init) [("__class__", cc)] .none kV doc pm an (.ref cda) ct) (body := L2.defBody s_InvalidText_init)
    (binds := [(("self" : Str), Value.ref x), ("row", u1), ("word", u2)]) hr (X _ _ lk) rfl (M.nolimit.keeps k) (codeRec_of X hcd) rfl (BindsTo.of_eq (by first | rfl | kernel_rfl)) (show ∀ x ∈ (L2.defScope s_InvalidText_init).names, x.2 ≠ .cell by decide +kernel)
    (fun y hy => by
      simp only [List.mem_cons, List.not_mem_nil, or_false] at hy
      rcases hy with rfl | rfl | rfl
      · exact (show (L2.defScope s_InvalidText_init).names.lookup ("self" : Str) = some NameKind.local by decide +kernel)
      · exact (show (L2.defScope s_InvalidText_init).names.lookup ("row" : Str) = some NameKind.local by decide +kernel)
      · exact (show (L2.defScope s_InvalidText_init).names.lookup ("word" : Str) = some NameKind.local by decide +kernel)) (fun h0 hns kk => ?_)
    (show (L2.defScope s_InvalidText_init).isCoroutine = false by decide +kernel) (show (L2.defScope s_InvalidText_init).isGenerator = false by decide +kernel) (show (L2.defScope s_InvalidText_init).kind = .function by decide +kernel)
  show PySem.wpAt (model prg w) (A.deeper (ksEnv "InvalidText.__init__" (L2.defScope s_InvalidText_init) hp.objs.size f (.ref cda) cc)) (.func (L2.defBody s_InvalidText_init) (ksEnv "InvalidText.__init__" (L2.defScope s_InvalidText_init) hp.objs.size f (.ref cda) cc)) (execs (L2.defBody s_InvalidText_init) (ksEnv "InvalidText.__init__" (L2.defScope s_InvalidText_init) hp.objs.size f (.ref cda) cc)) _ _ _
  have hxL : hp.objs.size ≠ x := Ne.symm (Nat.ne_of_lt (Heap.lt_size hx))
  have es : (fun y => List.lookup y ([(("self" : Str), Value.ref x), ("row", u1), ("word", u2)]).reverse) "self" = some (.ref x) := rfl
  have e0 : (fun y => List.lookup y ([(("self" : Str), Value.ref x), ("row", u1), ("word", u2)]).reverse) "row" = some u1 := rfl
  have e1 : (fun y => List.lookup y ([(("self" : Str), Value.ref x), ("row", u1), ("word", u2)]).reverse) "word" = some u2 := rfl
  have xC : ∀ b o, base.get? b = some o → b ≠ x := fun b o e z => by rw [z, hb] at e; cases e
  refine ks_wpAt_execs_cons (sup_stmt T M (fun b o e => kk b o (k b o e)) (kk _ _ hx) hns (ar := _) rfl es (by decide +kernel) (by decide +kernel) (by decide +kernel) (by decide +kernel) rfl ⟨_, rfl⟩ (fun h1 t1 tk1 s1 x1 => ?_))
  have hk : (L2.defScope s_InvalidText_init).kind = .function := by decide +kernel
  have hl0 : (L2.defScope s_InvalidText_init).names.lookup ("self" : Str) = some NameKind.local := by decide +kernel
  have hl1 : (L2.defScope s_InvalidText_init).names.lookup ("row" : Str) = some NameKind.local := by decide +kernel
  obtain ⟨oL, esL, epL, hL, rL⟩ := hns
  have ns1 : h1.Ns hp.objs.size _ := ⟨oL, esL, epL, s1 _ _ hxL hL, rL⟩
  have X1 : K.In h1 := M.kin.keeps fun b o e => s1 b o (xC b o e) (kk b o (k b o e))
  refine PySem.wpAt_of_wpAny (wpAny_execs_cons (set_first (env := ksEnv "InvalidText.__init__" (L2.defScope s_InvalidText_init) hp.objs.size f (.ref cda) cc) X1 x1 ns1 es e0 hk hl0 hl1 (by decide) (by decide) T.sa hcl hm hh no0 rfl (fun h2 tk2 dx s2 dn dne x2 n2 => ?_)))
  have ns2 : h2.Ns hp.objs.size _ := ⟨oL, esL, epL, s2 _ _ hxL (s1 _ _ hxL hL), rL⟩
  have X2 : K.In h2 := M.kin.keeps fun b o e => s2 b o (xC b o e) (s1 b o (xC b o e) (kk b o (k b o e)))
  have hl2 : (L2.defScope s_InvalidText_init).names.lookup ("word" : Str) = some NameKind.local := by decide +kernel
  have dlt : ∀ b o, hp.get? b = some o → b ≠ dx := fun b o e => Nat.ne_of_lt (Nat.lt_of_lt_of_le (Heap.lt_size (show h1.get? hp.objs.size = some oL from s1 _ _ hxL hL) |> Nat.lt_trans (Heap.lt_size e)) dn)
  refine wpAny_execs_cons (set_next (env := ksEnv "InvalidText.__init__" (L2.defScope s_InvalidText_init) hp.objs.size f (.ref cda) cc) X2 x2 n2 (Within.cons "row" u1 Within.nil) (by simp) ns2 es e1 hk hl0 hl2 (by decide) (by decide) T.sa hcl hm hh no1 rfl (fun h3 tk3 s3 n3 => ?_))
  exact wpAny_execs_nil (h h3 tk3 dx t1 (fun b o hb e => s3 b o (dlt b o e) (s2 b o hb (s1 b o hb (kk b o e)))) (Nat.le_of_lt (Nat.lt_of_lt_of_le (Heap.lt_size (s1 _ _ hxL hL)) dn)) dne (s3 _ _ (Ne.symm dne) x2) n3)

end
end Om
end PartRu3
section PartRu4
set_option Elab.async false
set_option linter.all false
set_option maxRecDepth 100000
set_option maxHeartbeats 4000000
/-! Rule: raise C(k = v, ..) for the two exception classes of the package that the law meets. -/
namespace Om
open PySem PySem.Spec PyProof.Rows L2
/-- C(k = v, ..): the exception and its dict -/
def tMkX (C : Addr) (ks : List Str) (tk : TA) : L2.St → Hp → XK → Prop := fun σ H Q => tk σ H fun zs H1 => zs.length = ks.length ∧ ∀ d, H1 d = none → Q (.ref C) (some d) (upd H1 d (.xd (ks.zip zs)))
section
variable {X : Cx} {pins : List (Addr × Obj)} {σ : L2.St} {H1 : Hp} {Q : XK} {hp hp2 h2 : Heap} {g : Array GenState} {dr : Drawn} {t1 t2 : Nat} {os : OsState} {a C d e1 : Addr} {fs : List (Str × V)}
/-- the exception stands: as an instance that is let go -/
theorem made_end (T : Raises X (.ref C)) (I1 : Inv X pins σ H1 ⟨hp, g, dr, t1, os⟩) (I2 : Inv X pins σ (upd H1 a (exo a C none)) ⟨hp2, g, dr, t1, os⟩) (ha : hp.objs.size ≤ a) (k : ∀ b o, hp.get? b = some o → hp2.get? b = some o)
    (k2 : ∀ b o, b ≠ a → hp2.get? b = some o → h2.get? b = some o) (dn : hp2.objs.size ≤ d) (dne : d ≠ a) (hx : h2.get? a = some ({ cls := .ref C, dict := some d, data := .fields #[.ref e1, .none, .none, .none, .bool false, .none] } : Obj))
    {mA : Str → Option Value} (hn : h2.Ns1 d mA) (rel : ∀ f, RelO (fs.lookup f) (mA f)) (q : H1 d = none → Q (.ref C) (some d) (upd H1 d (.xd fs))) : MkP X pins σ Q (.ref a) ⟨h2, g, dr, t2, os⟩ := by
  have e : upd H1 a (exo a C none) a = some (exo a C none) := upd_same
  have hnd : upd H1 a (exo a C none) d = none := I2.hok.fresh dn
  have hna : H1 a = none := I1.hok.fresh ha
  have hd1 : H1 d = none := by rw [upd_ne dne] at hnd; exact hnd
  have nd : ∀ {b : Addr} {o : Obj}, hp2.get? b = some o → b ≠ d := fun {b o} q => Nat.ne_of_lt (Nat.lt_of_lt_of_le (Heap.lt_size q) dn)
  have na : ∀ {b : Addr}, upd H1 a (exo a C none) b = none → b ≠ a := fun {b} n z => by
    rw [z, e] at n
    cases n
  have Un1 : Un (frs X.stack) [] (upd H1 a (exo a C none)) (upd (upd (upd H1 a (exo a C none)) d (exd d fs)) a (exo a C (some d))) hp2 h2 := {
    keep := fun b o q n _ _ => k2 b o (na n) q
    slot := fun b o q n _ _ => ⟨o.slots, k2 b o (na n) q⟩
    free := fun b o q n _ => by rw [upd_ne (na n), upd_ne (nd q)]; exact n
    there := fun b o q _ => by
      by_cases hb : b = a
      · exact ⟨_, by rw [hb]; exact hx⟩
      · exact ⟨o, k2 b o hb q⟩
    tups := fun b xs q => by rw [upd_ne (at_ne e q exo_tup), upd_ne (ne_of_none q hnd)]; exact q
    frzs := fun b o v q => by rw [upd_ne (at_ne e q exo_frz), upd_ne (ne_of_none q hnd)]; exact q
    tbls := fun b ps q => ⟨#[], by rw [upd_ne (at_ne e q exo_tbl), upd_ne (ne_of_none q hnd), q]; simp⟩ }
  have hok : HOk X.prog X.w (upd (upd (upd H1 a (exo a C none)) d (exd d fs)) a (exo a C (some d))) h2 := fun b o q => by
    by_cases hb : b = a
    · subst hb
      rw [upd_same] at q
      cases q
      exact exo_ok hx
    · rw [upd_ne hb] at q
      by_cases hd : b = d
      · subst hd
        rw [upd_same] at q
        cases q
        exact exd_ok hn rel
      · rw [upd_ne hd] at q
        exact (I2.hok b o q).stay (fun c v hc z => k2 c v (by
            rcases hc with hc | hc
            · rw [hc]
              exact hb
            · exact at_ne e hc exo_own) z)
          (fun c hc => by rw [upd_ne (at_ne e hc exo_own), upd_ne (ne_of_none hc hnd)]; exact hc) (fun c xs hc => by rw [upd_ne (at_ne e hc exo_tup), upd_ne (ne_of_none hc hnd)]; exact hc)
  have eH : upd (del (upd (upd (upd H1 a (exo a C none)) d (exd d fs)) a (exo a C (some d))) a) d (.xd fs) = upd H1 d (.xd fs) := by
    funext b
    by_cases hd : b = d
    · rw [hd, upd_same, upd_same]
    · rw [upd_ne hd, upd_ne hd]
      by_cases hb : b = a
      · rw [hb, del_same, hna]
      · rw [del_ne hb, upd_ne hb, upd_ne hd, upd_ne hb]
  refine mk_end T I1 ha k (t2 := t2) (d2 := dr) ?_ hok rfl I1.bare upd_same (by rw [upd_ne dne]; exact upd_same) hd1 (by rw [eH]; exact q hd1)
  exact Un1
end

section
variable {X : Cx} {kws : List Keyword} {tk : TA} {p pos : Pos} {mg : Str → Option Value} {C f cc cda : Addr} {k : Nat}
/-- InvalidMap(index = ..) -/
theorem pmk_IM (hP : X.prog = prg) (T : XTx X.K X.mg s_InvalidMap_init "InvalidMap.__init__" C f cc cda) (no0 : PySem.W.findIn X.K (.ref C) "index" = some none) (tyC : PySem.W.typeIn X.K (.ref C) = some (.type "type")) (kC : PySem.W.keepIn X.K (.ref C) = true) (hr : Room (k + 1) X.A) (hg : Gl X "InvalidMap") (hm : X.mg "InvalidMap" = some (.ref C)) (hkw : PK X kws tk)
    (hall : (backToKw pos (keywordEach kws X.env)).all (·.1.isSome) = true := by rfl) (hks : (backToKw pos (keywordEach kws X.env)).filterMap (·.1) = (["index"] : List Str) := by rfl)
    (hpl : ((backTo pos (starEach [] X.env)).any (·.1) || (backToKw pos (keywordEach kws X.env)).any (·.1.isNone)) = false := by rfl) :
    PMk X (.Call (.Name "InvalidMap" p) [] kws pos) (tMkX C ["index"] tk) := by
  intro pins s σ H Q I h
  refine wpAny_Call_Name_kw (ld_glob I hg hm ?_ (by decide))
  refine PySem.W.callWith_KW0 (h₀ := X.base) I.ok.mod.kin kC hall ?_ hpl
  refine thn (hkw.run pos pins s σ H _ I h) fun ws s2 ⟨zs, H1, I1, rz, l2, q2⟩ => ⟨I1.kIn, ?_⟩
  rw [hks]
  obtain ⟨hp, g, dr, t, os⟩ := s2
  obtain ⟨y1, rfl⟩ : ∃ y1, zs = [y1] := by
    match zs, l2 with
    | [y1], _ => exact ⟨y1, rfl⟩
  cases rz with
  | @cons _ u1 _ _ r1 rz =>
  cases rz with
  | nil =>
  have q3 := q2
  have hsz : hp.objs.size ≤ hp.objs.size + 1 := Nat.le_succ _
  have kk : ∀ b o, hp.get? b = some o → ((hp.push (PySem.W.kdv_tup [])).push (PySem.HandSPX.excO C hp.objs.size)).get? b = some o := fun b o e => Heap.get?_push_of_some _ (Heap.get?_push_of_some _ e)
  have hget : ((hp.push (PySem.W.kdv_tup [])).push (PySem.HandSPX.excO C hp.objs.size)).get? (hp.objs.size + 1) = some (PySem.HandSPX.excO C hp.objs.size) := by heap_get
  have I2 : Inv X pins σ (upd H1 (hp.objs.size + 1) (exo (hp.objs.size + 1) C none)) ⟨(hp.push (PySem.W.kdv_tup [])).push (PySem.HandSPX.excO C hp.objs.size), g, dr, t, os⟩ :=
    I1.laid (t' := t) (a := hp.objs.size + 1) (o := exo (hp.objs.size + 1) C none) (h' := (hp.push (PySem.W.kdv_tup [])).push (PySem.HandSPX.excO C hp.objs.size)) kk hsz (exo_ok hget)
  obtain ⟨nm, N, qn, bs, bm, sn, sub, ab, col, dd, k0, k1, k2, k3, k5, hC, hT, hbm, cd, hcl, hh, hm', hmro⟩ := T.obj I1.kIn
  have hb : X.base.get? (hp.objs.size + 1) = none := by
    cases e : X.base.get? (hp.objs.size + 1) with
    | none => rfl
    | some o =>
      have z := Heap.lt_size (I1.bk _ _ e)
      exact absurd z (Nat.not_lt.mpr hsz)
  have hd : (X.A.under (.builtin "type.__call__" ⟨[.ref C], (["index"] : List Str).zip [u1]⟩)).depth < recursionLimit := (hr.make C [] ((["index"] : List Str).zip [u1])).depth
  have mod := I1.ok.mod
  have bk := fun b o (e : X.base.get? b = some o) => kk b o (I1.bk b o e)
  rw [hP]
  refine wpAny_call (kcall_own F.excBase_ValueError (fun Y => PySem.HandSPX.refsVE_contains Y bm hbm) hC (PySem.W.looks_findIn I1.kIn T.init) (fun self => PySem.W.bind_fn I1.kIn self T.ity) (by rw [sizeLine_eq]; exact Nat.zero_le _)
    (run_IM (d := dr) (t := t) T mod bk hd hget hb no0 ?_))
  intro h' tk' dx t1 s1 dn dne hx hn
  exact ⟨rfl, made_end (raises_own T.sub tyC) I1 I2 hsz kk s1 dn dne hx (fs := [("index", y1)]) hn (fun f => by
    show RelO (List.lookup f [(("index" : Str), y1)]) (if f = "index" then some u1 else none)
    exact relO_put (fs := []) (mA := fun _ => none) r1 (fun g => True.intro) f) (fun n => q3 dx n)⟩
end

section
variable {X : Cx} {kws : List Keyword} {tk : TA} {p pos : Pos} {mg : Str → Option Value} {C f cc cda : Addr} {k : Nat}
/-- InvalidText(row = .., word = ..) -/
theorem pmk_IT (hP : X.prog = prg) (T : XTx X.K X.mg s_InvalidText_init "InvalidText.__init__" C f cc cda) (no0 : PySem.W.findIn X.K (.ref C) "row" = some none) (no1 : PySem.W.findIn X.K (.ref C) "word" = some none) (tyC : PySem.W.typeIn X.K (.ref C) = some (.type "type")) (kC : PySem.W.keepIn X.K (.ref C) = true) (hr : Room (k + 1) X.A) (hg : Gl X "InvalidText") (hm : X.mg "InvalidText" = some (.ref C)) (hkw : PK X kws tk)
    (hall : (backToKw pos (keywordEach kws X.env)).all (·.1.isSome) = true := by rfl) (hks : (backToKw pos (keywordEach kws X.env)).filterMap (·.1) = (["row", "word"] : List Str) := by rfl)
    (hpl : ((backTo pos (starEach [] X.env)).any (·.1) || (backToKw pos (keywordEach kws X.env)).any (·.1.isNone)) = false := by rfl) :
    PMk X (.Call (.Name "InvalidText" p) [] kws pos) (tMkX C ["row", "word"] tk) := by
  intro pins s σ H Q I h
  refine wpAny_Call_Name_kw (ld_glob I hg hm ?_ (by decide))
  refine PySem.W.callWith_KW0 (h₀ := X.base) I.ok.mod.kin kC hall ?_ hpl
  refine thn (hkw.run pos pins s σ H _ I h) fun ws s2 ⟨zs, H1, I1, rz, l2, q2⟩ => ⟨I1.kIn, ?_⟩
  rw [hks]
  obtain ⟨hp, g, dr, t, os⟩ := s2
  obtain ⟨y1, y2, rfl⟩ : ∃ y1 y2, zs = [y1, y2] := by
    match zs, l2 with
    | [y1, y2], _ => exact ⟨y1, y2, rfl⟩
  cases rz with
  | @cons _ u1 _ _ r1 rz =>
  cases rz with
  | @cons _ u2 _ _ r2 rz =>
  cases rz with
  | nil =>
  have q3 := q2
  have hsz : hp.objs.size ≤ hp.objs.size + 1 := Nat.le_succ _
  have kk : ∀ b o, hp.get? b = some o → ((hp.push (PySem.W.kdv_tup [])).push (PySem.HandSPX.excO C hp.objs.size)).get? b = some o := fun b o e => Heap.get?_push_of_some _ (Heap.get?_push_of_some _ e)
  have hget : ((hp.push (PySem.W.kdv_tup [])).push (PySem.HandSPX.excO C hp.objs.size)).get? (hp.objs.size + 1) = some (PySem.HandSPX.excO C hp.objs.size) := by heap_get
  have I2 : Inv X pins σ (upd H1 (hp.objs.size + 1) (exo (hp.objs.size + 1) C none)) ⟨(hp.push (PySem.W.kdv_tup [])).push (PySem.HandSPX.excO C hp.objs.size), g, dr, t, os⟩ :=
    I1.laid (t' := t) (a := hp.objs.size + 1) (o := exo (hp.objs.size + 1) C none) (h' := (hp.push (PySem.W.kdv_tup [])).push (PySem.HandSPX.excO C hp.objs.size)) kk hsz (exo_ok hget)
  obtain ⟨nm, N, qn, bs, bm, sn, sub, ab, col, dd, k0, k1, k2, k3, k5, hC, hT, hbm, cd, hcl, hh, hm', hmro⟩ := T.obj I1.kIn
  have hb : X.base.get? (hp.objs.size + 1) = none := by
    cases e : X.base.get? (hp.objs.size + 1) with
    | none => rfl
    | some o =>
      have z := Heap.lt_size (I1.bk _ _ e)
      exact absurd z (Nat.not_lt.mpr hsz)
  have hd : (X.A.under (.builtin "type.__call__" ⟨[.ref C], (["row", "word"] : List Str).zip [u1, u2]⟩)).depth < recursionLimit := (hr.make C [] ((["row", "word"] : List Str).zip [u1, u2])).depth
  have mod := I1.ok.mod
  have bk := fun b o (e : X.base.get? b = some o) => kk b o (I1.bk b o e)
  rw [hP]
  refine wpAny_call (kcall_own F.excBase_ValueError (fun Y => PySem.HandSPX.refsVE_contains Y bm hbm) hC (PySem.W.looks_findIn I1.kIn T.init) (fun self => PySem.W.bind_fn I1.kIn self T.ity) (by rw [sizeLine_eq]; exact Nat.zero_le _)
    (run_IT (d := dr) (t := t) T mod bk hd hget hb no0 no1 ?_))
  intro h' tk' dx t1 s1 dn dne hx hn
  exact ⟨rfl, made_end (raises_own T.sub tyC) I1 I2 hsz kk s1 dn dne hx (fs := [("row", y1), ("word", y2)]) hn (fun f => by
    show RelO (List.lookup f [(("row" : Str), y1), ("word", y2)]) (if f = "word" then some u2 else if f = "row" then some u1 else none)
    by_cases hw : f = "word"
    · subst hw
      exact r2
    · rw [if_neg hw, lookup_put]
      by_cases hr : f = "row"
      · rw [if_pos hr, if_pos hr]
        exact r1
      · rw [if_neg hr, if_neg hr, lookup_put, if_neg hw]
        exact True.intro) (fun n => q3 dx n)⟩
end
end Om
end PartRu4
section PartRu5
set_option Elab.async false
set_option linter.all false
set_option maxRecDepth 100000
set_option maxHeartbeats 4000000
/-! The two exception classes' facts in one. -/
namespace Om
open PySem L2 He
theorem xfn_of {K : Frg} {d : DD} (e : fwOf K (d.at_ K) = d.val ["__class__"]) (c : d.ok K = true) (hn : d.name = "__init__") :
    ∃ (oc : Value) (od : Option Addr) (kV doc pm : Value) (an : Option Addr) (ct : Value) (osl : Array (Option Value)),
    K.lookup (d.at_ K) = some ⟨oc, od, .func (PySem.W.fnX "__init__" d.qual (L2.defArgs d.st) (L2.defBody d.st) (L2.defScope d.st) [("__class__", cellOf K (d.at_ K))] .none kV doc pm an (.ref (codeAt K (d.at_ K))) ct), osl⟩ ∧ PySem.W.codeIn K (.ref (codeAt K (d.at_ K))) d.qual = true := by
  obtain ⟨kp, c2⟩ := ba c
  unfold fwOf at e
  cases q : K.lookup (d.at_ K) with
  | none => rw [q] at c2; cases c2
  | some o =>
    obtain ⟨oc, od, dt, osl⟩ := o
    rw [q] at c2 e
    cases dt with
    | func fd =>
      have hf : fdOf K (d.at_ K) = fd := by unfold fdOf; rw [q]
      have hcell : cellOf K (d.at_ K) = match fd.closure with | (_, c) :: _ => c | _ => 0 := by unfold cellOf; rw [hf] <;> rfl
      have hcode : codeAt K (d.at_ K) = match fd.code with | .ref c => c | _ => 0 := by unfold codeAt; rw [hf] <;> rfl
      rw [hcell, hcode]
      obtain ⟨n1, n2, n3, n4, n5, n6, n7, n8, n9, n10, n11, n12, n13, n14, n15⟩ := fd
      have e2 : (some (n1, n2, n3, n4, n5, n6, n7.map (·.1), n15) : FW) = some (d.name, d.qual, defArgs d.st, FuncBody.stmts (defBody d.st), defScope d.st, mainGlobals, (["__class__"] : List Str), builtinsNs) := e
      simp only [Option.some.injEq, Prod.mk.injEq] at e2
      obtain ⟨h1, h2, h3, h4, h5, h6, h7, h8⟩ := e2
      obtain ⟨k1, k2⟩ := ba (show (PySem.W.codeIn K n13 d.qual && isNonV n8) = true from c2)
      have k3 : n8 = .none := by cases n8 <;> first | rfl | cases k2
      subst k3
      obtain ⟨cc, h7⟩ : ∃ cc, n7 = [(("__class__" : Str), cc)] := by
        match n7, h7 with
        | [(a, b)], h7 =>
          have z : a = ("__class__" : Str) := by simpa using h7
          exact ⟨b, by rw [z]⟩
      obtain ⟨cd, h13⟩ : ∃ cd, n13 = .ref cd := by
        cases n13 <;> first | exact ⟨_, rfl⟩ | cases k1
      rw [hn] at h1
      subst h1 h2 h3 h4 h5 h6 h7 h8 h13
      exact ⟨oc, od, n9, n10, n11, n12, n14, osl, rfl, k1⟩
    | _ => cases c2
theorem cell_of {K : Frg} {a C : Addr} (e : (match K.lookup a with | some ⟨_, _, .cell (some (.ref b)), _⟩ => decide (b = C) | _ => false) = true) : ∃ oc od osl, K.lookup a = some ⟨oc, od, .cell (some (.ref C)), osl⟩ := by
  split at e
  · rename_i oc od b osl q
    have z := of_decide_eq_true e
    subst z
    exact ⟨oc, od, osl, q⟩
  · cases e
theorem file_of {K : Frg} {a : Addr} (e : (match K.lookup a with | some ⟨_, _, .fields vs, _⟩ => (match vs[2]? with | some (Value.str f _) => decide (f = prg.main.file) | _ => false) | _ => false) = true) :
    ∃ oc od vs osl tf, K.lookup a = some ⟨oc, od, .fields vs, osl⟩ ∧ vs[2]? = some (.str prg.main.file tf) := by
  split at e
  · rename_i oc od vs osl q
    split at e
    · rename_i f tf q2
      have z := of_decide_eq_true e
      subst z
      exact ⟨oc, od, vs, osl, tf, q, q2⟩
    · cases e
  · cases e
section
variable {w : World} {K : Frg} {mg : Str → Option Value}
abbrev iT (K : Frg) : Addr := ma K (ga K "InvalidText") "__init__"
abbrev iM (K : Frg) : Addr := ma K (ga K "InvalidMap") "__init__"
theorem Tx.xIT (T : Tx w K mg) : XTx K mg s_InvalidText_init "InvalidText.__init__" (ga K "InvalidText") (iT K) (cellOf K (iT K)) (codeAt K (iT K)) :=
  ⟨T.x_InvalidText_cls, T.x_InvalidText_ve, T.x_InvalidText_sup, T.x_InvalidText_sa, T.x_InvalidText_init, T.x_InvalidText_ity, T.x_InvalidText_sub, T.x_InvalidText_suv, T.x_InvalidText_mro, T.x_op, T.b_super,
    xfn_of (d := d_InvalidText_init) (T.xfn 0 rfl).1 (T.xfn 0 rfl).2 rfl, cell_of T.x_InvalidText_cell, file_of T.x_InvalidText_file⟩
theorem Tx.xIM (T : Tx w K mg) : XTx K mg s_InvalidMap_init "InvalidMap.__init__" (ga K "InvalidMap") (iM K) (cellOf K (iM K)) (codeAt K (iM K)) :=
  ⟨T.x_InvalidMap_cls, T.x_InvalidMap_ve, T.x_InvalidMap_sup, T.x_InvalidMap_sa, T.x_InvalidMap_init, T.x_InvalidMap_ity, T.x_InvalidMap_sub, T.x_InvalidMap_suv, T.x_InvalidMap_mro, T.x_op, T.b_super,
    xfn_of (d := d_InvalidMap_init) (T.xfn 1 rfl).1 (T.xfn 1 rfl).2 rfl, cell_of T.x_InvalidMap_cell, file_of T.x_InvalidMap_file⟩
end
end Om
end PartRu5
section PartRu1
set_option Elab.async false
set_option linter.all false
set_option maxRecDepth 100000
set_option maxHeartbeats 4000000
/-! Rules: enumerate of a tuple or a text, zip of two texts, as what a for walks. -/
namespace Om
open PySem PySem.Spec PyProof.Rows L2
open PySem.SeqAt (EqAt)
/-! ### enumerate(v), its two cells -/
set_option maxHeartbeats 4000000 in
theorem meets_enum1 {v : Value} {o : Obj} {G : Heap → Prop} (B : Begins v o G) :
    Meets (Builtin.«enumerate.__new__» ⟨[.type "enumerate", v], []⟩) (fun _ R s => G s.heap ∧
      R (.ok (.ret (.ref (s.heap.push o).objs.size)))
        { s with heap := (s.heap.push o).push { cls := .type "enumerate", data := .fields #[.none, .bool false, .ref s.heap.objs.size, rawInt 0, .none, .none] } }) :=
  .of_wp fun prog w A R s h => by
    obtain ⟨hp, g, d, tk, os⟩ := s
    obtain ⟨h1, h⟩ := h
    have hsub := sub_enumerate
    have q1 : ∀ {A' : Around} {E : Value → Shared → Prop} {Q : Value → Shared → Prop}, Q (.ref hp.objs.size) ⟨hp.push o, g, d, tk, os⟩ → wpAny (model prog w) A' (pyIter v) Q E ⟨hp, g, d, tk, os⟩ := fun q => B.iter prog w _ _ _ _ h1 q
    wp_walk using q1
    refine wpAny_stack_any fun st => wpAny_pure ?_
    split
    · rename_i c _ _ _ _ _
      cases (c == Value.type "enumerate") <;> (wp_walk using q1; exact ⟨_, rfl, h⟩)
    · wp_walk using q1
      exact ⟨_, rfl, h⟩
theorem enum1_begins {prog : Program} {w : World} {A : Around} {E : Value → Shared → Prop} {s : Shared} {v : Value} {o : Obj} {G : Heap → Prop} {Q : Value → Shared → Prop} (B : Begins v o G) (h1 : G s.heap)
    (h : ∀ h', IsEnum h' (s.heap.objs.size + 1) s.heap.objs.size 0 .none → h'.get? s.heap.objs.size = some o → h'.objs.size = s.heap.objs.size + 2 →
      (∀ b o, s.heap.get? b = some o → h'.get? b = some o) → Q (.ref (s.heap.objs.size + 1)) { s with heap := h' }) :
    wpAny (model prog w) A (call (.type "enumerate") [v]) Q E s := by
  refine callType_new F.called_enumerate (by decide) (F.typeCall_enumerate_1 _) (F.newCall_enumerate_1 _) (fun obj => F.args_object_init_2 obj _) F.entry_enumerate_new (meets_enum1 B) ⟨h1, ?_⟩
  have z : (s.heap.push o).objs.size = s.heap.objs.size + 1 := Heap.size_push ..
  show _ ∧ _
  rw [z]
  have he : IsEnum ((s.heap.push o).push { cls := .type "enumerate", data := .fields #[.none, .bool false, .ref s.heap.objs.size, rawInt 0, .none, .none] }) (s.heap.objs.size + 1) s.heap.objs.size 0 .none := by
    have q := Heap.get?_push_size (s.heap.push o) (o := { cls := .type "enumerate", data := .fields #[.none, .bool false, .ref s.heap.objs.size, rawInt 0, .none, .none] }) rfl
    rw [z] at q
    exact q
  exact ⟨⟨_, he, rfl⟩, h _ he (Heap.get?_push_of_some _ (Heap.get?_push_size _ B.free)) (by rw [Heap.size_push, z]) fun b u x => Heap.get?_push_of_some _ (Heap.get?_push_of_some _ x)⟩

/-! ### a walk that hands out new pairs -/
/-- n turns; at turn i a new pair of an x and a y; G holds meanwhile -/
def ItP (n : Nat) (A1 A2 : Nat → V → Prop) (G : Hp → Prop) : It :=
  ⟨fun i H => i < n ∧ G H, fun i H v H' => ∃ T x y, v = .ref T ∧ H T = none ∧ H' = upd H T (.tup [x, y]) ∧ A1 i x ∧ A2 i y, fun i H => i = n ∧ G H⟩
/-- what the library tells of such a walk, at a state -/
structure PairSrc (P : Program) (w : World) (tg : Expr) (I : Addr) (fp0 : List Addr) (n : Nat) (A1 A2 : Nat → V → Prop) (tn : Nat → Heap → Prop) (A : Around) (h : Heap) : Prop where
  ex : ∃ (fp wr : List Addr) (P1 P2 : Nat → Value → Prop) (St : Nat → Heap → Prop), GoesN P w A tg I fp wr n (fun i h₀ v h => ∃ T x y, v = .ref T ∧ h₀.objs.size ≤ T ∧ P1 i x ∧ P2 i y ∧ h.IsTuple T #[x, y]) St ∧ (∀ b ∈ wr, b ∈ fp0) ∧
    (∀ i h', St i h' → tn i h') ∧ (∀ i, tn i h → St i h) ∧ (∀ i (v : Value), P1 i v → ∃ x, A1 i x ∧ RelV x v) ∧ ∀ i (v : Value), P2 i v → ∃ x, A2 i x ∧ RelV x v
theorem turn_pairs {P : Program} {w : World} {K : Frg} {elts : List Expr} {kk : Nat} {tpos : Pos} {I : Addr} {fp0 : List Addr} {n : Nat} {A1 A2 : Nat → V → Prop} {G : Hp → Prop} {tn : Nat → Heap → Prop}
    (mem : I ∈ fp0) (obj : ∀ i h, tn i h → ∀ b ∈ fp0, ∃ o, h.get? b = some o ∧ ∀ v, o.data ≠ .cell v)
    (keep : ∀ i h h', tn i h → (∀ b ∈ fp0, ∀ o, h.get? b = some o → h'.get? b = some o) → tn i h')
    (self : ∀ (A : Around) (i : Nat) (s : Shared) (Q : Value → Shared → Prop) (E : Value → Shared → Prop), tn i s.heap → Q (.ref I) s → wpAny (model P w) A (pyIter (.ref I)) Q E s)
    (src : ∀ (X : Cx), X.prog = P → X.w = w → X.K = K → ∀ (pins : List (Addr × Obj)) (σ : L2.St) (H : Hp) (s : Shared), Inv X pins σ H s → G H → X.A.handled = none → PairSrc P w (.Tuple elts kk tpos) I fp0 n A1 A2 tn X.A s.heap) :
    Turn P w K (.Tuple elts kk tpos) (ItP n A1 A2 G) fp0 I tn where
  mem := mem
  obj := obj
  keep := keep
  self := self
  item := by
    intro X hP hw hK hc i pins s σ H E I0 hf st hg
    subst hP hw hK
    obtain ⟨hi, hG⟩ := hg
    obtain ⟨fp, wr, P1, P2, St, g, sub, down, up, r1, r2⟩ := (src X rfl rfl rfl pins σ H s I0 hG (I0.ok.hd hc)).ex
    refine g.goes i s (fun v s2 => ∃ x H', Inv X pins σ H' s2 ∧ RelV x v ∧ (ItP n A1 A2 G).yld i H x H' ∧ tn (i + 1) s2.heap ∧ ∀ b ∈ fp0, H' b = none) E hi (up i st) ?_
    rintro v h' tk ⟨T, x, y, rfl, hT, p1, p2, ht⟩ st' hk htk
    obtain ⟨a, ha, ra⟩ := r1 i x p1
    obtain ⟨b, hb, rb⟩ := r2 i y p2
    have old : ∀ c ob, c ∉ fp0 → s.heap.get? c = some ob → h'.get? c = some ob := fun c ob hcn e => hk c ob (fun z => hcn (sub c z)) e
    have new : ObjOk X.prog X.w (upd H T (.tup [a, b])) h' T (.tup [a, b]) := ⟨by show 2 ≤ sizeLine; decide, [x, y], .cons ra (.cons rb .nil), ht⟩
    refine ⟨.ref T, _, I0.turnedNew (t' := tk) (ch := fp0) old hf hT new, rfl, ⟨T, a, b, rfl, I0.hok.fresh hT, rfl, ha, hb⟩, down _ _ st', fun c hcm => ?_⟩
    obtain ⟨ob, hob, _⟩ := obj i s.heap st c hcm
    rw [upd_ne (Nat.ne_of_lt (Nat.lt_of_lt_of_le (Heap.lt_size hob) hT))]
    exact (hf c hcm).1
  done := by
    intro X hP hw hK hc i pins s σ H E I0 hf st hg
    subst hP hw hK
    obtain ⟨hi, hG⟩ := hg
    subst hi
    obtain ⟨fp, wr, P1, P2, St, g, sub, down, up, r1, r2⟩ := (src X rfl rfl rfl pins σ H s I0 hG (I0.ok.hd hc)).ex
    exact g.stops s (fun s1 => Inv X pins σ H s1) E (up i st) fun h' tk hk htk => I0.turnedL (t' := tk) (ch := fp0) (fun c ob hcn e => hk c ob (fun z => hcn (sub c z)) e) hf

/-! ### enumerate of a tuple -/
def At (xs : List V) : Nat → V → Prop := fun i x => xs[i]? = some x
def AtN : Nat → V → Prop := fun i x => x = .int (i : Int)
def AtS (z : Str) : Nat → V → Prop := fun i x => ∃ c, z.cps[i]? = some c ∧ x = .str ⟨#[c]⟩
theorem vals_at {xs : List V} {its : List Value} (r : Vals xs its) {i : Nat} {u : Value} (h : its[i]? = some u) : ∃ x, xs[i]? = some x ∧ RelV x u := by
  cases e : xs[i]? with
  | none => rw [r.none_of e] at h; cases h
  | some x =>
    obtain ⟨u', h1, h2⟩ := r.get e
    rw [h] at h1
    cases h1
    exact ⟨x, rfl, h2⟩
section
variable {X : Cx}
def iEnumT (K : Frg) (ta : TA) : TI := fun σ H R => ta σ H fun vs H1 => ∃ a xs, vs = [.ref a] ∧ SqT K H1 a xs ∧ R (ItP xs.length AtN (At xs) (fun H => SqT K H a xs)) H1
theorem pi_enumT {e : Expr} {ta : TA} {p pos tpos : Pos} {elts : List Expr} {kk : Nat} (hg : Gl X "enumerate") (hm : X.mg "enumerate" = none) (ha : PA X [e] ta) (hs : starEach [e] X.env = [(false, eval e X.env)] := by rfl) :
    PI X (.Tuple elts kk tpos) (.Call (.Name "enumerate" p) [e] [] pos) (iEnumT X.K ta) := by
  refine ⟨fun pins s σ H R I h => ?_⟩
  refine Call_ (ld_blt I hg hm boot_enumerate (PyProof.Rows.callWith_type1 (thn (ha.run pos pins s σ H _ I h) fun us s1 ⟨vs, H1, I1, r1, q1⟩ => ?_) hs rfl))
  obtain ⟨a, xs, rfl, hq, q⟩ := q1
  cases r1 with
  | cons r rr =>
    cases rr
    cases r
    obtain ⟨its, rv, p', hz⟩ := I1.tuple hq
    have la : a < s1.heap.objs.size := p'.lt
    refine enum1_begins (begins_tuple a its.toArray) p' fun h' he hit hsz hk => wpAny_pyIter_enum he ?_
    have I2 : Inv X pins σ H1 { s1 with heap := h' } := I1.kept (t' := s1.toks) hk
    have lz := rv.length
    refine ⟨s1.heap.objs.size + 1, [s1.heap.objs.size + 1, s1.heap.objs.size], (fun i h => (∃ old, IsEnum h (s1.heap.objs.size + 1) s1.heap.objs.size (i : Int) old) ∧ h.IsTupleIter s1.heap.objs.size a i), _, H1, rfl, I2, ?_, ⟨⟨.none, he⟩, (show Heap.IsTupleIter h' s1.heap.objs.size a 0 from ⟨_, hit, rfl, rfl⟩)⟩, fun b hb => ?_, q⟩
    · refine turn_pairs (by simp) (fun i h st b hb => ?_) (fun i h h'' st k => ⟨?_, ?_⟩) (fun A i s' Q E st hQ => ?_) (fun Y hP hw hK pins' σ' H' s' I' hG hh => ⟨?_⟩)
      · obtain ⟨⟨old, e1⟩, ⟨o2, e2, _, d2⟩⟩ := st
        have hb' : b = s1.heap.objs.size + 1 ∨ b = s1.heap.objs.size := by simpa using hb
        rcases hb' with rfl | rfl
        · exact ⟨_, e1, fun v z => by cases z⟩
        · exact ⟨_, e2, fun v z => by rw [d2] at z; cases z⟩
      · obtain ⟨⟨old, e1⟩, _⟩ := st
        exact ⟨old, k _ (by simp) _ e1⟩
      · exact st.2.at fun o e => k _ (by simp) o e
      · obtain ⟨⟨old, e1⟩, _⟩ := st
        exact wpAny_pyIter_enum e1 hQ
      · rw [← hP, ← hw]
        rw [← hK] at hG
        obtain ⟨its2, rv2, p2, _⟩ := I'.tuple hG
        have l2 := rv2.length
        have lt2 : a ≠ s1.heap.objs.size := Nat.ne_of_lt la
        have hne1 : s1.heap.objs.size + 1 ∉ [s1.heap.objs.size, a] := by
          intro z
          have z' : s1.heap.objs.size + 1 = s1.heap.objs.size ∨ s1.heap.objs.size + 1 = a := by simpa using z
          rcases z' with z' | z'
          · exact absurd z' (Nat.succ_ne_self _)
          · rw [← z'] at la; exact absurd (Nat.lt_trans (Nat.lt_succ_self _) la) (Nat.lt_irrefl _)
        have D := Draws.tuple (prog := Y.prog) (w := Y.w) (A := Y.A.in1) hh s1.heap.objs.size a lt2 its2.toArray
        have g := GoesN.enumFrom (prog := Y.prog) (w := Y.w) (A := Y.A) (elts := elts) (x1 := kk) (pos := tpos) 0 D (s1.heap.objs.size + 1) (Nat.succ_ne_self _) hne1 (by simp)
        have z0 : ∀ i : Nat, (0 : Int) + (i : Int) = (i : Int) := fun i => by omega
        have hn : its2.toArray.size = xs.length := by simp [l2]
        rw [hn] at g
        refine ⟨_, _, (fun i v => ∃ t, v = .int (0 + (i : Int)) t), (fun i v => its2.toArray[i]? = some v), _, ⟨g.sub, g.frame, fun i s2 Q E hi st hQ => g.goes i s2 Q E hi st (fun v h3 tk ⟨T, t, x, ev, h0, hx, ht⟩ st3 hk3 htk => hQ v h3 tk ⟨T, _, x, ev, h0, ⟨t, rfl⟩, hx, ht⟩ st3 hk3 htk), g.stops, g.self⟩, fun b hb => hb, fun i h4 st => ⟨by rw [← z0 i]; exact st.1, st.2.1⟩, fun i st => ⟨by rw [z0 i]; exact st.1, st.2, p2⟩, fun i v ⟨t, e⟩ => ⟨.int i, rfl, t, by rw [e, z0]⟩, fun i v e => vals_at rv2 (by simpa using e)⟩
    · have e' : b = s1.heap.objs.size + 1 ∨ b = s1.heap.objs.size := by simpa using hb
      have hle : s1.heap.objs.size ≤ b := by
        rcases e' with z | z
        · rw [z]; exact Nat.le_add_right _ _
        · rw [z]; exact Nat.le_refl _
      exact I1.fpOk hle (I1.hok.fresh hle)
/-! ### enumerate of a text -/
def iEnumS (ta : TA) : TI := fun σ H R => ta σ H fun vs H1 => ∃ z : Str, vs = [.str z] ∧ R (ItP z.cps.size AtN (AtS z) (fun _ => True)) H1
theorem pi_enumS {e : Expr} {ta : TA} {p pos tpos : Pos} {elts : List Expr} {kk : Nat} (hg : Gl X "enumerate") (hm : X.mg "enumerate" = none) (ha : PA X [e] ta) (hs : starEach [e] X.env = [(false, eval e X.env)] := by rfl) :
    PI X (.Tuple elts kk tpos) (.Call (.Name "enumerate" p) [e] [] pos) (iEnumS ta) := by
  refine ⟨fun pins s σ H R I h => ?_⟩
  refine Call_ (ld_blt I hg hm boot_enumerate (PyProof.Rows.callWith_type1 (thn (ha.run pos pins s σ H _ I h) fun us s1 ⟨vs, H1, I1, r1, q1⟩ => ?_) hs rfl))
  obtain ⟨z, rfl, q⟩ := q1
  cases r1 with
  | cons r rr =>
    cases rr
    obtain ⟨tz, rfl⟩ := r
    refine enum1_begins (begins_text z tz) trivial fun h' he hit hsz hk => wpAny_pyIter_enum he ?_
    have I2 : Inv X pins σ H1 { s1 with heap := h' } := I1.kept (t' := s1.toks) hk
    refine ⟨s1.heap.objs.size + 1, [s1.heap.objs.size + 1, s1.heap.objs.size], (fun i h => (∃ old, IsEnum h (s1.heap.objs.size + 1) s1.heap.objs.size (i : Int) old) ∧ h.IsStrIter s1.heap.objs.size (strIterType z) z tz i), _, H1, rfl, I2, ?_, ⟨⟨.none, he⟩, (show Heap.IsStrIter h' s1.heap.objs.size (strIterType z) z tz 0 from ⟨_, hit, rfl, rfl⟩)⟩, fun b hb => ?_, q⟩
    · refine turn_pairs (by simp) (fun i h st b hb => ?_) (fun i h h'' st k => ⟨?_, ?_⟩) (fun A i s' Q E st hQ => ?_) (fun Y hP hw hK pins' σ' H' s' I' hG hh => ⟨?_⟩)
      · obtain ⟨⟨old, e1⟩, ⟨o2, e2, _, d2⟩⟩ := st
        have hb' : b = s1.heap.objs.size + 1 ∨ b = s1.heap.objs.size := by simpa using hb
        rcases hb' with rfl | rfl
        · exact ⟨_, e1, fun v z => by cases z⟩
        · exact ⟨_, e2, fun v z => by rw [d2] at z; cases z⟩
      · obtain ⟨⟨old, e1⟩, _⟩ := st
        exact ⟨old, k _ (by simp) _ e1⟩
      · obtain ⟨_, o, e1, c1, d1⟩ := st
        exact ⟨o, k _ (by simp) _ e1, c1, d1⟩
      · obtain ⟨⟨old, e1⟩, _⟩ := st
        exact wpAny_pyIter_enum e1 hQ
      · rw [← hP, ← hw]
        have hne1 : s1.heap.objs.size + 1 ∉ [s1.heap.objs.size] := by simp
        have D := Draws.text (prog := Y.prog) (w := Y.w) (A := Y.A.in1) hh s1.heap.objs.size z tz
        have g := GoesN.enumFrom (prog := Y.prog) (w := Y.w) (A := Y.A) (elts := elts) (x1 := kk) (pos := tpos) 0 D (s1.heap.objs.size + 1) (Nat.succ_ne_self _) hne1 (by simp)
        have z0 : ∀ i : Nat, (0 : Int) + (i : Int) = (i : Int) := fun i => by omega
        refine ⟨_, _, (fun i v => ∃ t, v = .int (0 + (i : Int)) t), (fun i v => ∃ c u, z.cps[i]? = some c ∧ v = .str ⟨#[c]⟩ u), _, ⟨g.sub, g.frame, fun i s2 Q E hi st hQ => g.goes i s2 Q E hi st (fun v h3 tk ⟨T, t, x, ev, h0, hx, ht⟩ st3 hk3 htk => hQ v h3 tk ⟨T, _, x, ev, h0, ⟨t, rfl⟩, hx, ht⟩ st3 hk3 htk), g.stops, g.self⟩, fun b hb => hb, fun i h4 st => ⟨by rw [← z0 i]; exact st.1, st.2⟩, fun i st => ⟨by rw [z0 i]; exact st.1, st.2⟩, fun i v ⟨t, e⟩ => ⟨.int i, rfl, t, by rw [e, z0]⟩, fun i v ⟨c, u, e1, e2⟩ => ⟨.str ⟨#[c]⟩, ⟨c, e1, rfl⟩, u, e2⟩⟩
    · have e' : b = s1.heap.objs.size + 1 ∨ b = s1.heap.objs.size := by simpa using hb
      have hle : s1.heap.objs.size ≤ b := by
        rcases e' with z | z
        · rw [z]; exact Nat.le_add_right _ _
        · rw [z]; exact Nat.le_refl _
      exact I1.fpOk hle (I1.hok.fresh hle)
/-! ### zip of two texts, of two tuples -/
/-- what is drawn from: its iterator is to stand at N or above -/
structure SrcOk (K : Frg) (P : Program) (w : World) (u : Value) (N n : Nat) (A : Nat → V → Prop) (G : Hp → Prop) (o : Obj) (Hh : Heap → Prop) (tnI : Addr → Nat → Heap → Prop) : Prop where
  beg : Begins u o Hh
  st0 : ∀ it h, h.get? it = some o → tnI it 0 h
  obj : ∀ it i h, tnI it i h → ∃ o, h.get? it = some o ∧ ∀ v, o.data ≠ .cell v
  keep : ∀ it i h h', tnI it i h → (∀ o, h.get? it = some o → h'.get? it = some o) → tnI it i h'
  draws : ∀ (it : Addr), N ≤ it → ∀ (Y : Cx), Y.prog = P → Y.w = w → Y.K = K → ∀ (pins : List (Addr × Obj)) (σ : L2.St) (H : Hp) (s : Shared), Inv Y pins σ H s → G H → Y.A.handled = none →
    ∃ (fp' : List Addr) (Pd : Nat → Value → Prop) (St : Nat → Heap → Prop), Draws P w Y.A.in1 it (it :: fp') n Pd St ∧ (∀ b ∈ fp', b < N) ∧ (∀ i h, St i h → tnI it i h) ∧ (∀ i, tnI it i s.heap → St i s.heap) ∧ ∀ i v, Pd i v → ∃ x, A i x ∧ RelV x v
theorem src_text {K : Frg} {P : Program} {w : World} {z : Str} {t : Tok} {N : Nat} : SrcOk K P w (.str z t) N z.cps.size (AtS z) (fun _ => True) { cls := .type (strIterType z), data := .fields #[.str z t, .int 0 0] } (fun _ => True) (fun it i h => h.IsStrIter it (strIterType z) z t i) where
  beg := begins_text z t
  st0 := fun it h e => ⟨_, e, rfl, rfl⟩
  obj := fun it i h ⟨o, e, _, d⟩ => ⟨o, e, fun v q => by rw [d] at q; cases q⟩
  keep := fun it i h h' ⟨o, e, c, d⟩ k => ⟨o, k o e, c, d⟩
  draws := fun it _ Y hP hw hK pins σ H s I _ hh => ⟨[], _, _, Draws.text (prog := P) (w := w) (A := Y.A.in1) hh it z t, fun b hb => (by cases hb), fun _ _ q => q, fun _ q => q, fun i v ⟨c, u, e1, e2⟩ => ⟨.str ⟨#[c]⟩, ⟨c, e1, rfl⟩, u, e2⟩⟩
theorem src_tup {K : Frg} {P : Program} {w : World} {a : Addr} {xs : List V} {its : Array Value} {N : Nat} (la : a < N) : SrcOk K P w (.ref a) N xs.length (At xs) (fun H => SqT K H a xs) { cls := .type "tuple_iterator", data := .fields #[.ref a, .int 0 0] } (fun h => h.IsTuple a its) (fun it i h => h.IsTupleIter it a i) where
  beg := begins_tuple a its
  st0 := fun it h e => ⟨_, e, rfl, rfl⟩
  obj := fun it i h ⟨o, e, _, d⟩ => ⟨o, e, fun v q => by rw [d] at q; cases q⟩
  keep := fun it i h h' ⟨o, e, c, d⟩ k => ⟨o, k o e, c, d⟩
  draws := fun it hit Y hP hw hK pins σ H s I hG hh => by
    subst hP hw hK
    obtain ⟨its2, rv2, p2, _⟩ := I.tuple hG
    have l2 := rv2.length
    have ne : a ≠ it := Nat.ne_of_lt (Nat.lt_of_lt_of_le la hit)
    have D := Draws.tuple (prog := Y.prog) (w := Y.w) (A := Y.A.in1) hh it a ne its2.toArray
    have hn : its2.toArray.size = xs.length := by simp [l2]
    rw [hn] at D
    refine ⟨[a], _, _, D, fun b hb => ?_, fun i h st => st.1, fun i st => ⟨st, p2⟩, fun i v e => vals_at rv2 (by simpa using e)⟩
    have e : b = a := by simpa using hb
    rw [e]
    exact la
/-- zip(x, y) of such -/
theorem zip_src {pins : List (Addr × Obj)} {σ : L2.St} {H1 : Hp} {s1 : Shared} {u v : Value} {n1 n2 : Nat} {A1 A2 : Nat → V → Prop} {G1 G2 : Hp → Prop} {o1 o2 : Obj} {Hh1 Hh2 : Heap → Prop} {t1 t2 : Addr → Nat → Heap → Prop} {elts : List Expr} {kk : Nat} {tpos : Pos} {R : It → Hp → Prop}
    (I1 : Inv X pins σ H1 s1) (S1 : SrcOk X.K X.prog X.w u s1.heap.objs.size n1 A1 G1 o1 Hh1 t1) (S2 : SrcOk X.K X.prog X.w v s1.heap.objs.size n2 A2 G2 o2 Hh2 t2) (h1 : Hh1 s1.heap) (h2 : Hh2 s1.heap)
    (q : R (ItP (min n1 n2) A1 A2 (fun H => G1 H ∧ G2 H)) H1) :
    wpAny (model X.prog X.w) X.A (call (.type "zip") [u, v]) (fun v s1 => wpAny (model X.prog X.w) X.A (pyIter v) (PIE X pins σ (.Tuple elts kk tpos) R) X.xe s1) X.xe s1 := by
  refine zip_begins2 S1.beg S2.beg h1 h2 fun h' hz hTI hTO e1 e2 hsz hk => wpAny_pyIter_zip hz ?_
  have I2 : Inv X pins σ H1 { s1 with heap := h' } := I1.kept (t' := s1.toks) hk
  generalize hN : s1.heap.objs.size = N at *
  refine ⟨N + 4, [N + 4, N + 2, N + 3, N, N + 1], (fun i h => (IsZip h (N + 4) (N + 2) (N + 3) .none ∧ IsTupOf2 h (N + 2) (.ref N) (.ref (N + 1)) ∧ (∃ a1 a2, IsTupOf2 h (N + 3) a1 a2)) ∧ t1 N i h ∧ t2 (N + 1) i h), _, H1, rfl, I2, ?_, ⟨⟨hz, hTI, ⟨_, _, hTO⟩⟩, S1.st0 _ _ e1, S2.st0 _ _ e2⟩, fun c hcm => ?_, q⟩
  · refine turn_pairs (by simp) (fun i h st b hb => ?_) (fun i h h'' st k => ?_) (fun A i s' Q E st hQ => wpAny_pyIter_zip st.1.1 hQ) (fun Y hP hw hK pins' σ' H' s' I' hG hh => ⟨?_⟩)
    · obtain ⟨⟨a1, a2, ⟨x, y, a3⟩⟩, a4, a5⟩ := st
      have e' : b = N + 4 ∨ b = N + 2 ∨ b = N + 3 ∨ b = N ∨ b = N + 1 := by simpa using hb
      rcases e' with rfl | rfl | rfl | rfl | rfl
      · exact ⟨_, a1, fun v z => by cases z⟩
      · exact ⟨_, a2, fun v z => by cases z⟩
      · exact ⟨_, a3, fun v z => by cases z⟩
      · exact S1.obj _ _ _ a4
      · exact S2.obj _ _ _ a5
    · obtain ⟨⟨a1, a2, ⟨x, y, a3⟩⟩, a4, a5⟩ := st
      exact ⟨⟨k _ (by simp) _ a1, k _ (by simp) _ a2, ⟨x, y, k _ (by simp) _ a3⟩⟩, S1.keep _ _ _ _ a4 (fun o e => k _ (by simp) o e), S2.keep _ _ _ _ a5 (fun o e => k _ (by simp) o e)⟩
    · obtain ⟨fp1, P1, St1, D1, l1, d1, u1, r1⟩ := S1.draws N (Nat.le_refl _) Y hP hw hK pins' σ' H' s' I' hG.1 hh
      obtain ⟨fp2, P2, St2, D2, l2, d2, u2, r2⟩ := S2.draws (N + 1) (Nat.le_succ _) Y hP hw hK pins' σ' H' s' I' hG.2 hh
      have g := GoesN.zip2 (prog := X.prog) (w := X.w) (A := Y.A) (elts := elts) (x1 := kk) (pos := tpos) (zip_sep2 l1 l2) D1 D2
      refine ⟨_, _, _, _, _, g, fun b hb => ?_, fun i h4 ⟨b1, b2, b3, b4, b5⟩ => ⟨⟨b1, b2, b3⟩, d1 _ _ b4, d2 _ _ b5⟩, fun i ⟨⟨b1, b2, b3⟩, b4, b5⟩ => ⟨b1, b2, b3, u1 _ b4, u2 _ b5⟩, r1, r2⟩
      have e' : b = N + 4 ∨ b = N + 3 ∨ b = N ∨ b = N + 1 := by simpa using hb
      rcases e' with rfl | rfl | rfl | rfl <;> simp
  · have e' : c = N + 4 ∨ c = N + 2 ∨ c = N + 3 ∨ c = N ∨ c = N + 1 := by simpa using hcm
    have hle : s1.heap.objs.size ≤ c := by
      rw [hN]
      rcases e' with z | z | z | z | z
      · rw [z]; exact Nat.le_add_right _ _
      · rw [z]; exact Nat.le_add_right _ _
      · rw [z]; exact Nat.le_add_right _ _
      · rw [z]; exact Nat.le_refl _
      · rw [z]; exact Nat.le_add_right _ _
    exact I1.fpOk hle (I1.hok.fresh hle)
def iZipX (K : Frg) (ta : TA) : TI := fun σ H R => ta σ H fun vs H1 => (∃ z y : Str, vs = [.str z, .str y] ∧ R (ItP (min z.cps.size y.cps.size) (AtS z) (AtS y) (fun _ => True ∧ True)) H1) ∨
  ∃ a b xs ys, vs = [.ref a, .ref b] ∧ SqT K H1 a xs ∧ SqT K H1 b ys ∧ R (ItP (min xs.length ys.length) (At xs) (At ys) (fun H => SqT K H a xs ∧ SqT K H b ys)) H1
theorem pi_zipX {e e2 : Expr} {ta : TA} {p pos tpos : Pos} {elts : List Expr} {kk : Nat} (hg : Gl X "zip") (hm : X.mg "zip" = none) (ha : PA X [e, e2] ta)
    (hs : starEach [e, e2] X.env = (false, eval e X.env) :: starEach [e2] X.env := by rfl) (hpl : (backTo pos (starEach [e2] X.env)).any (·.1) = false := by rfl) :
    PI X (.Tuple elts kk tpos) (.Call (.Name "zip" p) [e, e2] [] pos) (iZipX X.K ta) := by
  refine ⟨fun pins s σ H R I h => ?_⟩
  refine Call_ (ld_blt I hg hm PyProof.Rows.boot_zip (PyProof.Rows.callWith_type1 (thn (ha.run pos pins s σ H _ I h) fun us s1 ⟨vs, H1, I1, r1, q1⟩ => ?_) hs hpl))
  rcases q1 with ⟨z, y, rfl, q⟩ | ⟨a, b, xs, ys, rfl, hqx, hqy, q⟩
  · cases r1 with
    | cons r rr =>
      cases rr with
      | cons r' rr =>
        cases rr
        obtain ⟨tz, rfl⟩ := r
        obtain ⟨ty, rfl⟩ := r'
        exact zip_src I1 src_text src_text trivial trivial q
  · cases r1 with
    | cons r rr =>
      cases rr with
      | cons r' rr =>
        cases rr
        cases r
        cases r'
        obtain ⟨its, rv, p1, _⟩ := I1.tuple hqx
        obtain ⟨its2, rv2, p2, _⟩ := I1.tuple hqy
        exact zip_src I1 (src_tup p1.lt) (src_tup p2.lt) p1 p2 q
end
end Om
end PartRu1
section PartRu2
set_option Elab.async false
set_option linter.all false
set_option maxRecDepth 100000
set_option maxHeartbeats 4000000
/-! Rule: first, *rest = t, t a tuple. -/
namespace Om
open PySem PySem.Spec PyProof.Rows L2 PySem.W
theorem unpack_first {prog : Program} {w : World} {A : Around} {E : Value → Shared → Prop} {s : Shared} {l : Addr} {items : Array Value} {x : Value} {rest : List Value} {Q : List Value → Shared → Prop} (hl : IsTup s.heap l items) (hh : A.handled = none)
    (hit : items.toList = x :: rest) (hz : items.size ≤ 1000)
    (h : ∀ (h' : Heap) (tk : Tok), (∀ b o, s.heap.get? b = some o → h'.get? b = some o) → Q [x, .ref h'.objs.size] { s with heap := h'.push { cls := .type "list", data := .seq rest.toArray }, toks := tk }) :
    wpAny (model prog w) A (unpackItems (.ref l) 2 (some 1)) Q E s := by
  have hsz : items.size = rest.length + 1 := by
    have e := congrArg List.length hit
    simpa using e
  have hll : l < s.heap.objs.size := hl.lt
  have hlt : l ≠ s.heap.objs.size := Nat.ne_of_lt hll
  unfold unpackItems
  refine wpAny_bind ?_
  unfold notIterableAtAll
  refine wpAny_bind (wpAny_specialOf hl.typeIs slot_tuple_iter.lookup ?_)
  refine wpAny_pure ?_
  simp only [Bool.false_eq_true, if_false]
  refine wpAny_bind (wpAny_holding (iter_tuple hl ?_))
  refine wpAny_bind (wpAny_holding (draw_tuple hlt 1 0 _ _ ⟨_, Heap.get?_push_size _ rfl, rfl, rfl⟩ (hl.push _) (by omega) fun h1 it1 sb1 => ?_))
  have hl1 : IsTup h1 l items := (hl.push _).extBut sb1.extBut hlt
  rw [Nat.zero_add] at it1
  obtain ⟨oi, hoi, _⟩ := id it1
  have e1 : (items.toList.drop 0).take 1 = [x] := by rw [hit]; rfl
  rw [e1]
  rw [if_neg (show ¬ ([x].length < 1) by simp)]
  refine wpAny_bind (wpAny_holding (kun_collect (s := { s with heap := h1 }) (T := "tuple_iterator") (.inr (.inr (.inr rfl))) (Walks.tuple (A := A.in1) hh s.heap.objs.size l hlt items) (fun j u st => st.1.typeIs) (k := 1) (by omega) ⟨it1, hl1⟩ (Heap.lt_size hoi) hl1.lt (fun h2 tk hk => ?_) (by rw [sizeLine_eq]; omega)))
  have e2 : items.toList.drop 1 = rest := by rw [hit]; rfl
  rw [e2]
  show wpAny _ _ (if rest.length < 0 then _ else _) _ _ _
  rw [if_neg (Nat.not_lt_zero _)]
  show wpAny _ _ (newList (rest.take rest.length) >>= fun d => pure ([x] ++ [d] ++ rest.drop rest.length)) _ _ _
  rw [List.take_length, List.drop_length]
  refine wpAny_bind (wpAny_newList ?_ (by rw [sizeLine_eq]; omega))
  refine wpAny_pure ?_
  exact h h2 tk fun b o e => hk b o (Nat.ne_of_lt (Heap.lt_size e)) (sb1.extBut b o (Nat.ne_of_lt (Heap.lt_size e)) (Heap.get?_push_of_some _ e))
section
variable {X : Cx}
/-- first, *rest = v -/
def gStar (K : Frg) (t : TGs) : TG := fun v σ H Q => ∃ a x rest, v = .ref a ∧ SqT K H a (x :: rest) ∧ rest.length ≤ 900 ∧ ∀ D, H D = none → t [x, .ref D] σ (upd H D (.lst rest)) Q
theorem pgs_starred {e : Expr} {p : Pos} {rest : List Expr} {t : TGs} (h : PGs X (e :: rest) t) (he : (assignEach (e :: rest) X.env).map (·.2) = assign e X.env :: (assignEach rest X.env).map (·.2) := by rfl) : PGs X (.Starred e p :: rest) t := by
  refine ⟨fun pins s σ H vs us Q I r hq => ?_⟩
  have z : (assignEach (.Starred e p :: rest) X.env).map (·.2) = (assignEach (e :: rest) X.env).map (·.2) := by rw [he]; rfl
  rw [z]
  exact h.run pins s σ H vs us Q I r hq
theorem pg_star {e1 e2 : Expr} {p pos : Pos} {k : Nat} {t : TGs} (hc : X.calm = true) (h : PGs X [e1, .Starred e2 p] t)
    (hn : (assignEach [e1, .Starred e2 p] X.env).length = 2 := by rfl) (hst : (assignEach [e1, .Starred e2 p] X.env).findIdx? (·.1) = some 1 := by rfl) : PG X (.Tuple [e1, .Starred e2 p] k pos) (gStar X.K t) := by
  refine ⟨fun pins s σ H v u Q I r hw => ?_⟩
  obtain ⟨a, x, rest, rfl, hq, hl, hw⟩ := hw
  cases r
  obtain ⟨its, rv, ht, hz⟩ := I.tuple hq
  cases rv with
  | cons r1 rr =>
    rename_i u1 us
    have lr := rr.length
    rw [assign_Tuple]
    refine wpAny_bind (wpAny_standAt ?_)
    unfold unpack
    rw [hn, hst]
    refine wpAny_bind (wpAny_holding (unpack_first ht (I.ok.hd hc) (x := u1) (rest := us) (by simp) (by simp; omega) fun h' tk k => ?_))
    have I1 : Inv X pins σ H { s with heap := h', toks := tk } := I.kept (t' := tk) k
    have hf : H h'.objs.size = none := I1.hok.fresh (Nat.le_refl _)
    have I2 : Inv X pins σ (upd H h'.objs.size (.lst rest)) { s with heap := h'.push { cls := .type "list", data := .seq us.toArray }, toks := tk } :=
      I1.laid (t' := tk) (fun b o e => Heap.get?_push_of_some _ e) (Nat.le_refl _) ⟨by rw [sizeLine_eq]; omega, us, 0, rr, Heap.get?_push_size _ rfl⟩
    exact h.run pins _ σ _ [x, .ref h'.objs.size] [u1, .ref h'.objs.size] Q I2 (.cons r1 (.cons rfl .nil)) (hw _ hf)
end
end Om
end PartRu2
section PartMir
set_option Elab.async false
set_option linter.all false
/-! The mirrors: what a text of a chart is read as. -/
namespace Om
open PySem L2 TL

/-! ### words -/
def isDig (c : Nat) : Bool := decide (48 ≤ c) && decide (c ≤ 57)
def known26 : List Nat := [65,66,67,68,69,70,71,72,73,74,75,76,77,78,79,80,81,82,83,84,85,86,87,88,89,90]
def knS : List Nat := 46 :: known26
def knA : List Nat := knS ++ [126]
def knI : List Nat := 46 :: 126 :: known26
/-- a number word -/
def isNum (w : Str) : Bool := (decide (1 ≤ (tl w).length) && decide ((tl w).length ≤ 2) && (tl w).all isDig) && (decide (tl w = [48]) || decide ((tl w).head? ≠ some 48))
def numV (w : Str) : Int := (tl w).foldl (fun (t : Int) (c : Nat) => t * 10 + ((c : Int) - 48)) 0
def rising : List Nat → Bool
  | a :: b :: r => decide (a < b) && rising (b :: r)
  | _ => true
def isSig (kn : List Nat) (w : Str) : Bool := decide (tl w ≠ []) && rising (tl w) && (tl w).all fun c => decide (c ∈ kn)

/-! ### an instruction's row -/
inductive Fm where
  | num | sig | all | nums
  deriving DecidableEq
def formsOf (h : Str) : Option (List Fm) :=
  if h = "turn" then some [.nums] else if h = "walk" then some [.num, .num] else if h = "until" then some [.sig] else if h = "toward" then some [.sig]
  else if h = "beside" then some [.num, .all] else if h = "near" then some [.all, .num] else if h = "shore" then some [.num, .num, .num] else none
/-- numbers to the row's end: k the place of the first one -/
def numsL : List Str → Nat → Except Nat (List Int)
  | [], _ => .ok []
  | w :: r, k => if isNum w = true then (match numsL r (k + 1) with | .ok l => .ok (numV w :: l) | .error e => .error e) else .error k
/-- a part at k: the place behind it, what it is -/
def partAt (f : Fm) (ws : List Str) (k : Nat) : Except Nat (Nat × PyData) :=
  match f with
  | .nums => if k < ws.length then (match numsL (ws.drop k) k with | .ok l => .ok (ws.length, .tuple (l.map PyData.int)) | .error e => .error e) else .error k
  | .num => match ws[k]? with
    | some w => if isNum w = true then .ok (k + 1, .int (numV w)) else .error k
    | none => .error k
  | .sig => match ws[k]? with
    | some w => if isSig knS w = true then .ok (k + 1, .str w) else .error k
    | none => .error k
  | .all => match ws[k]? with
    | some w => if isSig knA w = true then .ok (k + 1, .str w) else .error k
    | none => .error k
def partsAt : List Fm → List Str → Nat → List PyData → Except Nat (Nat × List PyData)
  | [], _, k, acc => .ok (k, acc)
  | f :: r, ws, k, acc => match partAt f ws k with
    | .ok (k', d) => partsAt r ws k' (acc ++ [d])
    | .error e => .error e
def rowAt (ws : List Str) : Except Nat (List PyData) :=
  match ws with
  | [] => .error 0
  | h :: _ => match formsOf h with
    | none => .error 0
    | some fs => match partsAt fs ws 1 [.str h] with
      | .error e => .error e
      | .ok (e, ds) => if e = ws.length then .ok ds else .error e

/-! ### the beginning -/
def sides : List Str := ["north", "east", "south", "west"]
def sideIx (w : Str) : Option Nat := if w = "north" then some 0 else if w = "east" then some 1 else if w = "south" then some 2 else if w = "west" then some 3 else none
def sidesL : List Str → Nat → Except Nat (List Int)
  | [], _ => .ok []
  | w :: r, k => match sideIx w with
    | some i => (match sidesL r (k + 1) with | .ok l => .ok ((i : Int) :: l) | .error e => .error e)
    | none => .error k
def beginAt (ws : List Str) : Except Nat (Str × List Int) :=
  match ws with
  | _ :: w :: r => if isSig knS w = true then (match r with
      | [] => .error 2
      | _ => match sidesL r 2 with | .ok l => .ok (w, l) | .error e => .error e) else .error 1
  | _ => .error 1

/-! ### the island -/
def badRow (w : Str) (acc : List Str) : Bool :=
  !((tl w).all fun c => decide (c ∈ knI)) || !(decide (1 ≤ (tl w).length) && decide ((tl w).length ≤ 12)) || decide (acc.length = 12) || (match acc with | [] => false | a :: _ => decide ((tl w).length ≠ (tl a).length))
def islL : List (List Str) → Nat → List Str → Except (Nat × Nat) (List Str)
  | [], k, _ => .error (k, 0)
  | ws :: r, k, acc =>
    let w := ws.headD Str.empty
    if w = "from" ∧ acc ≠ [] then .ok acc
    else if badRow w acc = true then .error (k, 0)
    else if 1 < ws.length then .error (k, 1)
    else islL r (k + 1) (acc ++ [w])
def islandAt (rows : List (List Str)) : Except (Nat × Nat) (List Str) :=
  match rows with
  | [] => .error (0, 0)
  | r0 :: r => if r0 = [("island" : Str)] then islL r 1 [] else .error (0, if r0.headD Str.empty = "island" then 1 else 0)

/-! ### the whole -/
structure Chart where
  rows : List Str
  signs : Str
  facs : List Int
  ins : List (List PyData)
def insL : List (List Str) → Nat → Except (Nat × Nat) (List (List PyData))
  | [], _ => .ok []
  | ws :: r, k => match rowAt ws with
    | .error e => .error (k, e)
    | .ok d => match insL r (k + 1) with | .ok l => .ok (d :: l) | .error e => .error e
def readM (lines : List (List Str)) : Except (Nat × Nat) Chart :=
  match islandAt lines with
  | .error e => .error e
  | .ok rows => match beginAt (lines.getD (rows.length + 1) []) with
    | .error e => .error (rows.length + 1, e)
    | .ok (s, f) => match insL (lines.drop (rows.length + 2)) (rows.length + 2) with
      | .error e => .error e
      | .ok l => .ok ⟨rows, s, f, l⟩

/-! ### what InvalidMap tells -/
def risingI : List Int → Bool
  | a :: b :: r => decide (a < b) && risingI (b :: r)
  | _ => true
def rngOk (a b : Int) : Bool := decide (a ≤ b) && decide (b ≤ 20)
def intsOf : List PyData → List Int
  | .int i :: r => i :: intsOf r
  | _ => []
/-- an instruction of the right form, is it valid -/
def goodIns : List PyData → Bool
  | [.str _, .tuple ts] => risingI (intsOf ts) && (intsOf ts).all fun t => decide (t ≤ 3)
  | [.str _, .int a, .int b] => rngOk a b
  | [.str _, .str _] => true
  | [.str _, .int t, .str _] => decide (t ≤ 3)
  | [.str _, .str _, .int m] => decide (m ≤ 22)
  | [.str _, .int s, .int a, .int b] => (decide (s = 1) || decide (s = 3)) && rngOk a b
  | _ => false
def wrongL : List (List PyData) → Nat → Option Nat
  | [], _ => none
  | d :: r, k => if goodIns d = false ∨ k = 20 then some k else wrongL r (k + 1)
def wrongIx (c : Chart) : Option Int :=
  if risingI c.facs = false then some (-1) else (wrongL c.ins 0).map fun k => (k : Int)
def insD (l : List (List PyData)) : PyData := .tuple (l.map PyData.tuple)
def rowsD (l : List Str) : PyData := .tuple (l.map PyData.str)
def intsD (l : List Int) : PyData := .tuple (l.map PyData.int)
def chartD (c : Chart) : List PyData := [rowsD c.rows, .str c.signs, intsD c.facs, insD c.ins]
def seenD (lines : List (List Str)) : PyData :=
  match readM lines with
  | .error (r, w) => .tuple [.str "InvalidText", .int r, .int w]
  | .ok c => match wrongIx c with
    | some i => .tuple [.str "InvalidMap", .int i]
    | none => .tuple (.str "chart" :: chartD c)
end Om
end PartMir
section PartY
set_option Elab.async false
set_option linter.all false
set_option maxRecDepth 100000
set_option maxHeartbeats 4000000
/-! Small tools for the walks. -/
namespace Om
open PySem PySem.Spec PyProof.Rows L2 He TL
/-! ### isinstance with a built-in class -/
def kB (n T : String) : Bool := match kitB n T with
  | some b => b
  | none => false
/-! ### o.f op= e of a slot -/
def sSlAug (K : PySem.W.Frag) (ta tv : TE) (f : Str) (rd : V → V → Hp → VK → Prop) : TS := fun D σ H => ta σ H fun x H1 => ∃ a C dx p vs i v, x = .ref a ∧ SlX.Slt H1 a C dx vs ∧ SlX.SCls K C ∧ SlX.Slot1 K C f p i ∧ vs[i]? = some (some v) ∧
  tv σ H1 fun y H2 => rd v y H2 fun z H3 => ∃ vs', SlX.Slt H3 a C dx vs' ∧ D.nx σ (SlX.slH H3 a C dx (SlX.putS i z vs'))
theorem ps_slaug {X : Cx} {o value : Expr} {f : Str} {pos tpos : Pos} {ta tv : TE} {op : Operator} {rd : V → V → Hp → VK → Prop} (ha : PE X o ta) (hv : PE X value tv) (hop : InOp X op rd) :
    PS X (.AugAssign (.Attribute o f tpos) op value pos) (sSlAug X.K ta tv f rd) := by
  refine ⟨fun pins s σ H D I h => ?_⟩
  refine wpAny_AugAssign_AttributeAny (thn (ha.run pins s σ H _ I h) fun ov s1 ⟨x, H1, I1, rx, a, C, dx, p, vs, i, v, ex, hs, c, t, l, q⟩ => ?_)
  subst ex
  obtain rfl : ov = Value.ref a := rx
  refine SlX.getslot_ok I1 hs c t l fun u s2 I2 ru => thn (hv.run pins s2 σ H1 _ I2 q) fun w3 s3 ⟨y, H2, I3, ry, q3⟩ => thn (hop pins s3 σ H2 v y u w3 _ I3 ru ry q3) fun w4 s4 ⟨z, H3, I4, rz, vs', ea', q4⟩ => ?_
  exact SlX.setslot_ok I4 ea' c t rz fun s5 I5 => ⟨σ, _, I5, q4⟩
/-! ### what stays -/
abbrev Ex := Evl.Ex
/-- all but what stands at a -/
def XB (a : Addr) (H H' : Hp) : Prop := ∀ b o, b ≠ a → H b = some o → H' b = some o
theorem XB.of {a : Addr} {H H' : Hp} (e : Ex H H') : XB a H H' := fun b o _ h => e b o h
theorem XB.refl (a : Addr) (H : Hp) : XB a H H := fun _ _ _ h => h
theorem XB.trans {a : Addr} {H H1 H2 : Hp} (x : XB a H H1) (y : XB a H1 H2) : XB a H H2 := fun b o n h => y b o n (x b o n h)
/-- tuples -/
def Tk (H H' : Hp) : Prop := ∀ a xs, L2.Rd H a (.tup xs) → L2.Rd H' a (.tup xs)
theorem Tk.refl (H : Hp) : Tk H H := fun _ _ h => h
theorem Tk.trans {H H1 H2 : Hp} (x : Tk H H1) (y : Tk H1 H2) : Tk H H2 := fun a xs h => y a xs (x a xs h)
theorem Tk.of {H H' : Hp} (e : Ex H H') : Tk H H' := fun _ _ h => Evl.ex_rd e h
theorem Tk.xb {H H' : Hp} {a : Addr} (e : XB a H H') (n : ∀ xs, ¬ L2.Rd H a (.tup xs)) : Tk H H' := fun b xs h => by
  have hb : b ≠ a := fun z => n xs (z ▸ h)
  rcases h with h | ⟨o, h⟩
  · exact .inl (e b _ hb h)
  · exact .inr ⟨o, e b _ hb h⟩
theorem Tk.sq {K : Frg} {H H' : Hp} {a : Addr} {xs : List V} (e : Tk H H') (h : SqT K H a xs) : SqT K H' a xs := h.elim (fun h => .inl (e _ _ h)) .inr
theorem Tk.upd {H : Hp} {a : Addr} {o : HO} (n : ∀ xs, ¬ L2.Rd H a (.tup xs)) : Tk H (upd H a o) := Tk.xb (a := a) (fun b u hb h => by rw [upd_ne hb]; exact h) n
/-! ### deep data of tuples -/
mutual
/-- tuples in tuples, so deep at most; the texts not too long -/
def tupD : Nat → PyData → Bool
  | _, .none => true
  | _, .bool _ => true
  | _, .int _ => true
  | _, .str x => PyData.strOk x
  | n + 1, .tuple ds => tupDs n ds
  | _, _ => false
def tupDs : Nat → List PyData → Bool
  | _, [] => true
  | n, d :: r => tupD n d && tupDs n r
end
abbrev tupOnly : PyData → Bool := tupD 8
abbrev tupOnlys : List PyData → Bool := tupDs 8
mutual
theorem tupD_up : ∀ {n : Nat} {d : PyData}, tupD n d = true → tupD (n + 1) d = true
  | _, .none, _ => by unfold tupD; rfl
  | _, .bool _, _ => by unfold tupD; rfl
  | _, .int _, _ => by unfold tupD; rfl
  | _, .str x, h => by unfold tupD at h ⊢; exact h
  | 0, .tuple ds, h => by unfold tupD at h; cases h
  | n + 1, .tuple ds, h => by
    unfold tupD at h ⊢
    exact tupDs_up h
  | _, .list _, h => by unfold tupD at h; cases h
  | _, .dict _, h => by unfold tupD at h; cases h
theorem tupDs_up : ∀ {n : Nat} {ds : List PyData}, tupDs n ds = true → tupDs (n + 1) ds = true
  | _, [], _ => by unfold tupDs; rfl
  | n, d :: r, h => by
    unfold tupDs at h ⊢
    obtain ⟨h1, h2⟩ := ba h
    rw [tupD_up h1, tupDs_up h2]
    rfl
end
theorem tupD_le {n m : Nat} {d : PyData} (h : tupD n d = true) (e : n ≤ m) : tupD m d = true := by
  induction e with
  | refl => exact h
  | step _ ih => exact tupD_up ih
theorem tupDs_le {n m : Nat} {d : List PyData} (h : tupDs n d = true) (e : n ≤ m) : tupDs m d = true := by
  induction e with
  | refl => exact h
  | step _ ih => exact tupDs_up ih
mutual
theorem tup_lay : ∀ {n : Nat} {d : PyData}, tupD n d = true → d.canLay0 = true ∧ d.depth ≤ n
  | _, .none, _ => ⟨rfl, Nat.zero_le _⟩
  | _, .bool _, _ => ⟨rfl, Nat.zero_le _⟩
  | _, .int _, _ => ⟨rfl, Nat.zero_le _⟩
  | _, .str x, h => by
    unfold tupD at h
    exact ⟨h, Nat.zero_le _⟩
  | 0, .tuple ds, h => by unfold tupD at h; cases h
  | n + 1, .tuple ds, h => by
    unfold tupD at h
    obtain ⟨h1, h2⟩ := tups_lay h
    exact ⟨by unfold PyData.canLay0; exact h1, by unfold PyData.depth; omega⟩
  | _, .list _, h => by unfold tupD at h; cases h
  | _, .dict _, h => by unfold tupD at h; cases h
theorem tups_lay : ∀ {n : Nat} {ds : List PyData}, tupDs n ds = true → PyData.canLayAll0 ds = true ∧ PyData.depthAll ds ≤ n
  | _, [], _ => ⟨by unfold PyData.canLayAll0; rfl, by unfold PyData.depthAll; exact Nat.zero_le _⟩
  | n, d :: r, h => by
    unfold tupDs at h
    obtain ⟨h1, h2⟩ := ba h
    obtain ⟨a1, a2⟩ := tup_lay h1
    obtain ⟨b1, b2⟩ := tups_lay h2
    exact ⟨by unfold PyData.canLayAll0; rw [a1, b1]; rfl, by unfold PyData.depthAll; exact Nat.max_le.mpr ⟨a2, b2⟩⟩
end
theorem shaped_list {n : Nat} {ds : List PyData} (h : tupDs n ds = true) (e : n ≤ 60) : SeqAt.shaped (.list ds) = true := by
  obtain ⟨h1, h2⟩ := tups_lay h
  have a : PyData.canLay0 (.list ds) = true := by unfold PyData.canLay0; exact h1
  have b : PyData.depth (.list ds) ≤ 64 := by unfold PyData.depth; omega
  unfold SeqAt.shaped
  rw [a, decide_eq_true b]
  rfl
theorem shaped_tup {n : Nat} {ds : List PyData} (h : tupDs n ds = true) (e : n ≤ 60) : SeqAt.shaped (.tuple ds) = true := by
  obtain ⟨h1, h2⟩ := tups_lay h
  have a : PyData.canLay0 (.tuple ds) = true := by unfold PyData.canLay0; exact h1
  have b : PyData.depth (.tuple ds) ≤ 64 := by unfold PyData.depth; omega
  unfold SeqAt.shaped
  rw [a, decide_eq_true b]
  rfl
theorem shaped_of {n : Nat} {d : PyData} (h : tupD n d = true) (e : n ≤ 60) : SeqAt.shaped d = true := by
  obtain ⟨h1, h2⟩ := tup_lay h
  unfold SeqAt.shaped
  rw [h1, decide_eq_true (show d.depth ≤ 64 by omega)]
  rfl
mutual
theorem dp_tk {K : Frg} {H H' : Hp} (e : Tk H H') : ∀ {n : Nat} {d : PyData} {v : V}, tupD n d = true → Dp K H v d → Dp K H' v d
  | _, .none, _, _, h => by cases h; exact .non
  | _, .bool b, _, _, h => by cases h; exact .bl b
  | _, .int i, _, _, h => by cases h; exact .int i
  | _, .str x, _, _, h => by cases h; exact .str x
  | _, .list ds, _, t, h => by unfold tupD at t; cases t
  | _, .dict ds, _, t, h => by unfold tupD at t; cases t
  | 0, .tuple ds, _, t, h => by unfold tupD at t; cases t
  | n + 1, .tuple ds, _, t, h => by
    unfold tupD at t
    cases h with
    | tup hs ha => exact .tup (e.sq hs) (dps_tk e t ha)
theorem dps_tk {K : Frg} {H H' : Hp} (e : Tk H H') : ∀ {n : Nat} {ds : List PyData} {vs : List V}, tupDs n ds = true → DpAll K H vs ds → DpAll K H' vs ds
  | _, [], _, _, h => by cases h; exact .nil
  | n, d :: r, _, t, h => by
    unfold tupDs at t
    obtain ⟨t1, t2⟩ := ba t
    cases h with
    | cons h1 h2 => exact .cons (dp_tk e t1 h1) (dps_tk e t2 h2)
end
mutual
theorem dp_ex {K : Frg} {H H' : Hp} (e : Ex H H') : ∀ {d : PyData} {v : V}, Dp K H v d → Dp K H' v d
  | .none, _, h => by cases h; exact .non
  | .bool b, _, h => by cases h; exact .bl b
  | .int i, _, h => by cases h; exact .int i
  | .str x, _, h => by cases h; exact .str x
  | .list ds, _, h => by
    cases h with
    | lst hs ha => exact .lst (Evl.ex_l e hs) (dps_ex e ha)
  | .dict ds, _, h => by cases h
  | .tuple ds, _, h => by
    cases h with
    | tup hs ha => exact .tup (Evl.ex_t e hs) (dps_ex e ha)
theorem dps_ex {K : Frg} {H H' : Hp} (e : Ex H H') : ∀ {ds : List PyData} {vs : List V}, DpAll K H vs ds → DpAll K H' vs ds
  | [], _, h => by cases h; exact .nil
  | d :: r, _, h => by
    cases h with
    | cons h1 h2 => exact .cons (dp_ex e h1) (dps_ex e h2)
end
theorem dps_int {K : Frg} {H : Hp} : ∀ (l : List Int), DpAll K H (l.map V.int) (l.map PyData.int)
  | [] => .nil
  | a :: r => .cons (.int a) (dps_int r)
theorem dps_str {K : Frg} {H : Hp} : ∀ (l : List Str), DpAll K H (l.map V.str) (l.map PyData.str)
  | [] => .nil
  | a :: r => .cons (.str a) (dps_str r)
theorem tupDs_int (n : Nat) : ∀ (l : List Int), tupDs n (l.map PyData.int) = true
  | [] => by unfold tupDs; rfl
  | a :: r => by
    show tupDs n (.int a :: r.map PyData.int) = true
    unfold tupDs
    rw [tupDs_int n r]
    unfold tupD
    rfl
theorem tupDs_str (n : Nat) : ∀ {l : List Str}, (∀ x ∈ l, PyData.strOk x = true) → tupDs n (l.map PyData.str) = true
  | [], _ => by unfold tupDs; rfl
  | a :: r, h => by
    show tupDs n (.str a :: r.map PyData.str) = true
    unfold tupDs
    rw [tupDs_str n (fun x hx => h x (.tail _ hx))]
    unfold tupD
    rw [h a (.head _)]
    rfl
/-- one sign -/
abbrev s1 (c : Nat) : Str := ⟨#[c]⟩
theorem ok_mem {z : Str} (h : PyData.strOk z = true) {c : Nat} (hc : c ∈ tl z) : PyData.strOk (s1 c) = true := by
  unfold PyData.strOk at h ⊢
  rw [Array.all_eq_true'] at h
  have := h c (by simpa [tl] using hc)
  simpa using this
end Om
end PartY
section PartY2
set_option Elab.async false
set_option linter.all false
set_option maxRecDepth 100000
set_option maxHeartbeats 4000000
/-! Comprehensions and loops. -/
namespace Om
open PySem PySem.Spec PyProof.Rows L2 He TL
/-- all but what stands at S; tuples stay -/
def Ky (S : List Addr) (H H' : Hp) : Prop := (∀ b o, b ∉ S → H b = some o → H' b = some o) ∧ Tk H H'
theorem Ky.refl (S : List Addr) (H : Hp) : Ky S H H := ⟨fun _ _ _ h => h, Tk.refl H⟩
theorem Ky.trans {S : List Addr} {H H1 H2 : Hp} (a : Ky S H H1) (b : Ky S H1 H2) : Ky S H H2 := ⟨fun c o n h => b.1 c o n (a.1 c o n h), a.2.trans b.2⟩
theorem Ky.ex {H H' : Hp} (k : Ky [] H H') : Ex H H' := fun b o h => k.1 b o (by simp) h
theorem Ky.of {S : List Addr} {H H' : Hp} (e : Ex H H') : Ky S H H' := ⟨fun b o _ h => e b o h, Tk.of e⟩
theorem Ky.new {S : List Addr} {H : Hp} {p : Addr} {o : HO} (h : H p = none) : Ky S H (upd H p o) := .of (Evl.Ex.new h)
theorem Ky.mono {S S' : List Addr} {H H' : Hp} (k : Ky S H H') (h : ∀ a ∈ S, a ∈ S') : Ky S' H H' := ⟨fun b o n z => k.1 b o (fun q => n (h b q)) z, k.2⟩
theorem Ky.fresh {S : List Addr} {H H' : Hp} {p : Addr} (k : Ky S H H') (h : H' p = none) (n : p ∉ S) : H p = none := by
  cases e : H p with
  | none => rfl
  | some o =>
    rw [k.1 p o n e] at h
    cases h
/-- what H does not know may change -/
theorem Ky.mut {S : List Addr} {H H' : Hp} {p : Addr} {o : HO} (k : Ky S H H') (h : H p = none) : Ky S H (upd H' p o) :=
  ⟨fun b u n z => by rw [upd_ne (ne_of_none z h)]; exact k.1 b u n z, fun b xs z => by
    rcases k.2 b xs z, z with ⟨q | ⟨u, q⟩, z | ⟨u', z⟩⟩
    all_goals first
      | exact .inl (by rw [upd_ne (ne_of_none z h)]; exact q)
      | exact .inr ⟨u, by rw [upd_ne (ne_of_none z h)]; exact q⟩⟩
/-- a list at S changes -/
theorem Ky.put {S : List Addr} {H : Hp} {p : Addr} {o : HO} (hp : p ∈ S) (n : ∀ xs, ¬ L2.Rd H p (.tup xs)) : Ky S H (upd H p o) :=
  ⟨fun b u nb z => by rw [upd_ne (show b ≠ p from fun e => nb (by rw [e]; exact hp))]; exact z, Tk.upd n⟩
theorem rd_lst {H : Hp} {p : Addr} {ys : List V} (h : H p = some (.lst ys)) : ∀ xs, ¬ L2.Rd H p (.tup xs) := fun xs z => by
  rcases z with z | ⟨o, z⟩
  · rw [h] at z; cases z
  · rw [h] at z; cases z
theorem Ky.seq {K : Frg} {S : List Addr} {H H' : Hp} {a : Addr} {xs : List V} (k : Ky S H H') (n : a ∉ S) (h : SqL K H a xs) : SqL K H' a xs := by
  rcases h with (h | ⟨o, h⟩) | h
  · exact .inl (.inl (k.1 _ _ n h))
  · exact .inl (.inr ⟨o, k.1 _ _ n h⟩)
  · exact .inr h
theorem tupDs_app {n : Nat} : ∀ {a b : List PyData}, tupDs n a = true → tupDs n b = true → tupDs n (a ++ b) = true
  | [], _, _, h => h
  | d :: r, b, h, q => by
    unfold tupDs at h
    obtain ⟨h1, h2⟩ := ba h
    show tupDs n (d :: (r ++ b)) = true
    unfold tupDs
    rw [h1, tupDs_app h2 q]
    rfl
theorem dps_app {K : Frg} {H : Hp} : ∀ {a : List V} {da : List PyData} {b : List V} {db : List PyData}, DpAll K H a da → DpAll K H b db → DpAll K H (a ++ b) (da ++ db)
  | _, _, _, _, .nil, q => q
  | _, _, _, _, .cons h r, q => .cons h (dps_app r q)
theorem dps_len {K : Frg} {H : Hp} : ∀ {a : List V} {da : List PyData}, DpAll K H a da → a.length = da.length
  | _, _, .nil => rfl
  | _, _, .cons _ r => by
    show _ + 1 = _ + 1
    rw [dps_len r]
theorem tupD1 {n : Nat} {d : PyData} (h : tupD n d = true) : tupDs n [d] = true := by
  unfold tupDs
  rw [h]
  unfold tupDs
  rfl
theorem dps_int_eq {K : Frg} {H : Hp} : ∀ {l : List Int} {xs : List V}, DpAll K H xs (l.map PyData.int) → xs = l.map V.int
  | [], _, h => by cases h; rfl
  | a :: r, _, h => by
    cases h with
    | cons h1 h2 => cases h1; rw [dps_int_eq h2]; rfl
theorem dps_str_eq {K : Frg} {H : Hp} : ∀ {l : List Str} {xs : List V}, DpAll K H xs (l.map PyData.str) → xs = l.map V.str
  | [], _, h => by cases h; rfl
  | a :: r, _, h => by
    cases h with
    | cons h1 h2 => cases h1; rw [dps_str_eq h2]; rfl
theorem dps_bool_eq {K : Frg} {H : Hp} : ∀ {l : List Bool} {xs : List V}, DpAll K H xs (l.map PyData.bool) → xs = l.map V.bl
  | [], _, h => by cases h; rfl
  | a :: r, _, h => by
    cases h with
    | cons h1 h2 => cases h1; rw [dps_bool_eq h2]; rfl
/-- a list of deep data of tuples at a new place -/
def NewL (K : Frg) (H : Hp) (p : Addr) (ds : List PyData) : Prop := ∃ xs, H p = some (.lst xs) ∧ DpAll K H xs ds ∧ tupOnlys ds = true
/-- a comprehension: the data so far -/
theorem lcD {J : It} {n : Nat} {G : Hp → Prop} {Y : Nat → Hp → V → Hp → Prop} (w : Walk J n G Y) {K : Frg} {S : List Addr} {g : TG} {tt : TT} {te : TE} {vs : List Nat} {σ : L2.St} {H1 : Hp} {D : Addr} {Qd : Hp → Prop}
    (hD : H1 D = none) (I : Hp → Prop) (R : Nat → List PyData → Prop) (hS : D ∉ S) (hn : n ≤ 40000) (hI : ∀ H' l, I H' → I (upd H' D (.lst l))) (hG : ∀ H', Ky S H1 H' → I H' → G H') (h0 : I H1) (r0 : R 0 [])
    (hs : ∀ i x H H' ds (P1 : VK) (P2 : Hp → Prop), i < n → R i ds → Ky S H1 H → I H → Y i H x H' → (∀ y d H4, Ky S H H4 → I H4 → Dp K H4 y d → tupOnly d = true → R (i + 1) (ds ++ [d]) → P1 y H4) → (∀ H3, Ky S H H3 → I H3 → R (i + 1) ds → P2 H3) →
      g x (wipe σ vs) H' fun σ2 H2 => wipe σ2 vs = wipe σ vs ∧ tt σ2 H2 fun b H3 => if b = true then te σ2 H3 P1 else P2 H3)
    (hd : ∀ H' ds, Ky S H1 H' → I H' → NewL K H' D ds → R n ds → ds.length ≤ n → Qd H') :
    ∃ W : Nat → Nat → Hp → Prop, (∃ m, W 0 m (upd H1 D (.lst []))) ∧ ∀ i m H, W i m H →
      (J.stop i H ∧ Qd H) ∨ (J.go i H ∧ ∃ Nx : Hp → Prop, (∀ H', Nx H' → ∃ m', m' < m ∧ W (i + 1) m' H') ∧ ∀ x H', J.yld i H x H' → g x (wipe σ vs) H' fun σ2 H2 => wipe σ2 vs = wipe σ vs ∧ tt σ2 H2 fun b H3 =>
        if b = true then te σ2 H3 fun y H4 => ∃ acc, H4 D = some (.lst acc) ∧ acc.length < sizeLine ∧ Nx (upd H4 D (.lst (acc ++ [y]))) else Nx H3) := by
  refine lc_it w (fun i H => Ky S H1 H ∧ I H ∧ (∃ xs ds, H D = some (.lst xs) ∧ DpAll K H xs ds ∧ tupOnlys ds = true ∧ R i ds ∧ ds.length ≤ i)) ⟨.new hD, hI _ _ h0, [], [], upd_same, .nil, rfl, r0, Nat.le_refl _⟩ (fun i H _ p => hG H p.1 p.2.1) (fun i x H H' hi p y => ?_) (fun H p => ?_)
  · obtain ⟨k, hIH, xs, ds, hx, hdp, ht, hr, hl⟩ := p
    refine hs i x H H' ds _ _ hi hr k hIH y (fun y d H4 k4 i4 d4 t4 r4 => ?_) (fun H3 k3 i3 r3 => ?_)
    · have e4 : H4 D = some (.lst xs) := k4.1 D _ hS hx
      refine ⟨xs, e4, Evl.sz_lt (by rw [dps_len hdp]; omega), Ky.mut (k.trans k4) hD, hI _ _ i4, xs ++ [y], ds ++ [d], upd_same, ?_, tupDs_app ht (tupD1 t4), r4, by rw [List.length_append]; simp; omega⟩
      have tk : Tk H4 (upd H4 D (.lst (xs ++ [y]))) := Tk.upd (rd_lst e4)
      exact dps_app (dps_tk (k4.2.trans tk) ht hdp) (.cons (dp_tk tk t4 d4) .nil)
    · exact ⟨k.trans k3, i3, xs, ds, k3.1 D _ hS hx, dps_tk k3.2 ht hdp, ht, r3, by omega⟩
  · obtain ⟨k, hIH, xs, ds, hx, hdp, ht, hr, hl⟩ := p
    exact hd H ds k hIH ⟨xs, hx, hdp, ht⟩ hr hl
/-- pairs that are made -/
theorem walk_pairs {n : Nat} {A1 A2 : Nat → V → Prop} {G : Hp → Prop} : Walk (ItP n A1 A2 G) n G (fun i H v H' => ∃ T x y, v = .ref T ∧ H T = none ∧ H' = upd H T (.tup [x, y]) ∧ A1 i x ∧ A2 i y) :=
  ⟨fun _ _ hi q => ⟨hi, q⟩, fun _ q => ⟨rfl, q⟩, fun _ _ _ _ _ _ y => y⟩
/-! ### comparing with nothing -/
theorem eqv_nil (ds : List PyData) : PyData.eqv (.list ds) (.list []) = ds.isEmpty := by
  cases ds <;> rfl
theorem eqv_nilT (ds : List PyData) : PyData.eqv (.tuple ds) (.tuple []) = ds.isEmpty := by
  cases ds <;> rfl
theorem tY {σ : L2.St} {H : Hp} {f g : Hp → Prop} (h : f H) : tYes σ H fun b H3 => if b = true then f H3 else g H3 := by
  show if true = true then f H else g H
  exact iteT h
theorem ex_new {H : Hp} {p : Addr} {o : HO} (h : H p = none) : Ex H (upd H p o) := Evl.Ex.new h
/-- a slice of a tuple -/
theorem slA {K : Frg} {H : Hp} {a : Addr} {xs : List V} {lo hi : Option Int} {Q : VK} (h : SqT K H a xs) (k : ∀ b H1, Ex H H1 → SqT K H1 b (cutV xs lo hi) → Q (.ref b) H1) : rSlA K (.ref a) lo hi H Q := by
  refine ⟨a, xs, rfl, h, fun e => ?_, fun _ p hp => k p _ (ex_new hp) (.of upd_same)⟩
  refine k a H (Evl.Ex.refl H) ?_
  have c : cutV xs lo hi = xs := by
    unfold cutV
    rw [e.1, e.2, List.drop_zero, Nat.sub_zero, List.take_length]
  rw [c]
  exact h
end Om
end PartY2
section PartPL
set_option Elab.async false
set_option linter.all false
/-! Plain lemmas. -/
namespace Om
open PySem L2 TL
theorem tl_cut1 (z : Str) : tl (cutS z (some 1) none) = (tl z).drop 1 := by
  show (((z.cps.toList.drop (HT.sIx z.length 0 (some 1))).take (HT.sIx z.length z.length none - HT.sIx z.length 0 (some 1))).toArray).toList = z.cps.toList.drop 1
  have e : HT.sIx z.length 0 (some 1) = min 1 z.length := HT.sIx_nat z.length 0 1
  rw [e, HT.sIx_none]
  have hl : z.length = z.cps.toList.length := by simp [Str.length]
  show (z.cps.toList.drop (min 1 z.length)).take (z.length - min 1 z.length) = _
  by_cases h : 1 ≤ z.length
  · rw [Nat.min_eq_left h]
    refine List.take_of_length_le ?_
    rw [List.length_drop, hl]
    omega
  · have h0 : z.cps.toList = [] := List.eq_nil_of_length_eq_zero (by omega)
    rw [h0]
    simp
theorem cutV_from (xs : List V) (k : Nat) : cutV xs (some (k : Int)) none = xs.drop k := by
  unfold cutV
  rw [HT.sIx_nat, HT.sIx_none]
  by_cases h : k ≤ xs.length
  · rw [Nat.min_eq_left h]
    refine List.take_of_length_le ?_
    rw [List.length_drop]
    omega
  · rw [Nat.min_eq_right (by omega), List.drop_of_length_le (by omega), List.drop_of_length_le (by omega)]
    simp
theorem cutV_to (xs : List V) (k : Nat) : cutV xs none (some (k : Int)) = xs.take k := by
  unfold cutV
  rw [HT.sIx_nat, HT.sIx_none, List.drop_zero, Nat.sub_zero]
  by_cases h : k ≤ xs.length
  · rw [Nat.min_eq_left h]
  · rw [Nat.min_eq_right (by omega), List.take_of_length_le (Nat.le_refl _), List.take_of_length_le (by omega)]
theorem rising_iff : ∀ l : List Nat, rising l = true ↔ ∀ j, j + 1 < l.length → l.getD j 0 < l.getD (j + 1) 0
  | [] => by simp [rising]
  | [a] => by simp [rising]
  | a :: b :: r => by
    show (decide (a < b) && rising (b :: r)) = true ↔ _
    rw [Bool.and_eq_true, decide_eq_true_iff, rising_iff (b :: r)]
    constructor
    · intro ⟨h1, h2⟩ j hj
      cases j with
      | zero => exact h1
      | succ j => exact h2 j (by simpa using hj)
    · intro h
      exact ⟨h 0 (by simp), fun j hj => h (j + 1) (by simpa using hj)⟩
theorem risingI_iff : ∀ l : List Int, risingI l = true ↔ ∀ j, j + 1 < l.length → l.getD j 0 < l.getD (j + 1) 0
  | [] => by simp [risingI]
  | [a] => by simp [risingI]
  | a :: b :: r => by
    show (decide (a < b) && risingI (b :: r)) = true ↔ _
    rw [Bool.and_eq_true, decide_eq_true_iff, risingI_iff (b :: r)]
    constructor
    · intro ⟨h1, h2⟩ j hj
      cases j with
      | zero => exact h1
      | succ j => exact h2 j (by simpa using hj)
    · intro h
      exact ⟨h 0 (by simp), fun j hj => h (j + 1) (by simpa using hj)⟩
/-- neighbours, each compared -/
def nbS (l : List Nat) : List Bool := (List.range (l.length - 1)).map fun j => decide (l.getD j 0 < l.getD (j + 1) 0)
def nbI (l : List Int) : List Bool := (List.range (l.length - 1)).map fun j => decide (l.getD j 0 < l.getD (j + 1) 0)
theorem nbS_all (l : List Nat) : (nbS l).all id = rising l := by
  rw [Bool.eq_iff_iff, rising_iff]
  unfold nbS
  simp only [List.all_map, List.all_eq_true, List.mem_range, Function.comp, id, decide_eq_true_iff]
  exact ⟨fun h j hj => h j (by omega), fun h j hj => h j (by omega)⟩
theorem nbI_all (l : List Int) : (nbI l).all id = risingI l := by
  rw [Bool.eq_iff_iff, risingI_iff]
  unfold nbI
  simp only [List.all_map, List.all_eq_true, List.mem_range, Function.comp, id, decide_eq_true_iff]
  exact ⟨fun h j hj => h j (by omega), fun h j hj => h j (by omega)⟩
theorem lt1 (a b : Nat) : decide ([a] < [b]) = decide (a < b) := by
  apply decide_eq_decide.mpr
  constructor
  · intro h
    cases h with
    | rel h => exact h
    | cons h => cases h
  · intro h
    exact .rel h
theorem range_succ_map {α : Type} (f : Nat → α) (i : Nat) : (List.range (i + 1)).map f = (List.range i).map f ++ [f i] := by
  rw [List.range_succ, List.map_append]
  rfl
theorem vstr_eq (z y : Str) : decide (V.str z = V.str y) = decide (tl z = tl y) := by
  apply decide_eq_decide.mpr
  constructor
  · intro h
    cases h
    rfl
  · intro h
    rw [ext_tl h]
theorem dig_mem (c : Nat) : decide (c ∈ tl (Str.ofString "0123456789")) = isDig c := by
  have e : tl (Str.ofString "0123456789") = [48,49,50,51,52,53,54,55,56,57] := by decide +kernel
  rw [e]
  unfold isDig
  by_cases h1 : 48 ≤ c
  · by_cases h2 : c ≤ 57
    · rw [decide_eq_true h1, decide_eq_true h2]
      apply decide_eq_true
      have : c = 48 ∨ c = 49 ∨ c = 50 ∨ c = 51 ∨ c = 52 ∨ c = 53 ∨ c = 54 ∨ c = 55 ∨ c = 56 ∨ c = 57 := by omega
      simpa using this
    · rw [decide_eq_false h2, Bool.and_false]
      apply decide_eq_false
      simp
      omega
  · rw [decide_eq_false h1, Bool.false_and]
    apply decide_eq_false
    simp
    omega
end Om
end PartPL
section PartY3
set_option Elab.async false
set_option linter.all false
set_option maxRecDepth 100000
set_option maxHeartbeats 4000000
/-! Readings that come again. -/
namespace Om
open PySem PySem.Spec PyProof.Rows L2 He TL
theorem ifB {c : Bool} {A B : Prop} (h1 : c = true → A) (h2 : c = false → B) : if c = true then A else B := by
  cases c with
  | true => exact iteT (h1 rfl)
  | false => exact iteF (h2 rfl)
theorem nil_eq {K : Frg} {H : Hp} {D p : Addr} {ds : List PyData} {Q : VK} (h : NewL K H D ds) (hp : H p = some (.lst [])) (k : Q (.bl ds.isEmpty) H) : rEqD K (.ref D) (.ref p) H Q := by
  obtain ⟨xs, hx, hd, ht⟩ := h
  exact ⟨.list ds, .list [], .lst (.of hx) hd, .lst (.of hp) .nil, shaped_list ht (by decide), rfl, by rw [eqv_nil]; exact k⟩
theorem nil_ne {K : Frg} {H : Hp} {D p : Addr} {ds : List PyData} {Q : VK} (h : NewL K H D ds) (hp : H p = some (.lst [])) (k : Q (.bl (!ds.isEmpty)) H) : rNeD K (.ref D) (.ref p) H Q := by
  obtain ⟨xs, hx, hd, ht⟩ := h
  exact ⟨.list ds, .list [], .lst (.of hx) hd, .lst (.of hp) .nil, shaped_list ht (by decide), rfl, by rw [eqv_nil]; exact k⟩
theorem NewL.ex {K : Frg} {H H' : Hp} {D : Addr} {ds : List PyData} (e : Ex H H') (h : NewL K H D ds) : NewL K H' D ds := by
  obtain ⟨xs, hx, hd, ht⟩ := h
  exact ⟨xs, e _ _ hx, dps_ex e hd, ht⟩
theorem take_succ_filter {α : Type} {p : α → Bool} {l : List α} {i : Nat} {a : α} (h : l[i]? = some a) : (l.take (i + 1)).filter p = (l.take i).filter p ++ (if p a = true then [a] else []) := by
  rw [List.take_add_one, h]
  show ((l.take i) ++ [a]).filter p = _
  rw [List.filter_append, List.filter_cons]
  rfl
/-- [c for c in z if ..], the test by p -/
theorem lcS {K : Frg} {z : Str} {j : Nat} {tt : TT} {vs : List Nat} {σ : L2.St} {H1 : Hp} {D : Addr} {Qd : Hp → Prop} (p : Nat → Bool) (hD : H1 D = none) (ok : PyData.strOk z = true) (hz : z.cps.size ≤ 40000)
    (hw : ∀ x, wipe ((wipe σ vs).set j (some x)) vs = wipe σ vs) (hj : Nat.blt j (wipe σ vs).length = true) (ht : ∀ c H2 (Pt : Bool → Hp → Prop), c ∈ tl z → Ex H1 H2 → Pt (p c) H2 → tt ((wipe σ vs).set j (some (.str (s1 c)))) H2 Pt)
    (hd : ∀ H', Ex H1 H' → NewL K H' D (((tl z).filter p).map fun c => PyData.str (s1 c)) → Qd H') :
    ∃ W : Nat → Nat → Hp → Prop, (∃ m, W 0 m (upd H1 D (.lst []))) ∧ ∀ i m H, W i m H →
      ((Its z).stop i H ∧ Qd H) ∨ ((Its z).go i H ∧ ∃ Nx : Hp → Prop, (∀ H', Nx H' → ∃ m', m' < m ∧ W (i + 1) m' H') ∧ ∀ x H', (Its z).yld i H x H' → (gName j) x (wipe σ vs) H' fun σ2 H2 => wipe σ2 vs = wipe σ vs ∧ tt σ2 H2 fun b H3 =>
        if b = true then (tVar j) σ2 H3 fun y H4 => ∃ acc, H4 D = some (.lst acc) ∧ acc.length < sizeLine ∧ Nx (upd H4 D (.lst (acc ++ [y]))) else Nx H3) := by
  refine lcD (K := K) (S := []) (g := gName j) (tt := tt) (te := tVar j) (vs := vs) (σ := σ) (walk_str (z := z)) hD (fun _ => True) (fun i ds => ds = (((tl z).take i).filter p).map fun c => PyData.str (s1 c)) (by simp) hz (fun _ _ _ => trivial) (fun _ _ _ => trivial) trivial rfl ?_ ?_
  · intro i x H H' ds P1 P2 hi hr k1 _ y c1 c2
    obtain ⟨rfl, c, hc, rfl⟩ := y
    have hc' : (tl z)[i]? = some c := by rw [← hc]; exact Array.getElem?_toList
    have hm : c ∈ tl z := List.mem_of_getElem? hc'
    refine ⟨hw _, ht c _ _ hm k1.ex ?_⟩
    refine ifB (fun e => ⟨.str (s1 c), by rw [List.getElem?_set_self (Nat.blt_eq.mp hj)], c1 _ (.str (s1 c)) _ (.refl _ _) trivial (.str _) (by unfold tupD; exact ok_mem ok hm) ?_⟩) (fun e => c2 _ (.refl _ _) trivial ?_)
    · rw [take_succ_filter hc', if_pos e, List.map_append, hr]
      rfl
    · rw [take_succ_filter hc', if_neg (by rw [e]; exact Bool.false_ne_true), List.append_nil, hr]
  · intro H' ds k1 _ hn hr hl
    refine hd H' k1.ex ?_
    rw [hr] at hn
    rw [List.take_of_length_le (by rw [Array.length_toList]; exact Nat.le_refl _)] at hn
    exact hn
theorem filter_none {p : Nat → Bool} {f : Nat → PyData} : ∀ l : List Nat, ((l.filter p).map f).isEmpty = l.all fun c => !p c
  | [] => rfl
  | a :: r => by
    rw [List.filter_cons]
    cases h : p a with
    | true =>
      rw [if_pos rfl]
      show false = _
      rw [List.all_cons, h]
      rfl
    | false =>
      rw [if_neg Bool.false_ne_true, List.all_cons, h, filter_none r]
      rfl
/-- [t for t in (ints) if ..] -/
theorem lcI {K : Frg} {a : Addr} {l : List Int} {j : Nat} {tt : TT} {vs : List Nat} {σ : L2.St} {H1 : Hp} {D : Addr} {Qd : Hp → Prop} (p : Int → Bool) (hD : H1 D = none) (ha : SqT K H1 a (l.map V.int)) (hz : l.length ≤ 40000)
    (hw : ∀ x, wipe ((wipe σ vs).set j (some x)) vs = wipe σ vs) (hj : Nat.blt j (wipe σ vs).length = true) (ht : ∀ c H2 (Pt : Bool → Hp → Prop), c ∈ l → Ex H1 H2 → Pt (p c) H2 → tt ((wipe σ vs).set j (some (.int c))) H2 Pt)
    (hd : ∀ H', Ex H1 H' → NewL K H' D ((l.filter p).map PyData.int) → Qd H') :
    ∃ W : Nat → Nat → Hp → Prop, (∃ m, W 0 m (upd H1 D (.lst []))) ∧ ∀ i m H, W i m H →
      ((Itt K a).stop i H ∧ Qd H) ∨ ((Itt K a).go i H ∧ ∃ Nx : Hp → Prop, (∀ H', Nx H' → ∃ m', m' < m ∧ W (i + 1) m' H') ∧ ∀ x H', (Itt K a).yld i H x H' → (gName j) x (wipe σ vs) H' fun σ2 H2 => wipe σ2 vs = wipe σ vs ∧ tt σ2 H2 fun b H3 =>
        if b = true then (tVar j) σ2 H3 fun y H4 => ∃ acc, H4 D = some (.lst acc) ∧ acc.length < sizeLine ∧ Nx (upd H4 D (.lst (acc ++ [y]))) else Nx H3) := by
  refine lcD (K := K) (S := []) (g := gName j) (tt := tt) (te := tVar j) (vs := vs) (σ := σ) (walk_tup (K := K) (a := a) (xs := l.map V.int)) hD (fun _ => True) (fun i ds => ds = ((l.take i).filter p).map PyData.int) (by simp) (by rw [List.length_map]; exact hz) (fun _ _ _ => trivial) (fun _ k1 _ => Evl.ex_t k1.ex ha) trivial rfl ?_ ?_
  · intro i x H H' ds P1 P2 hi hr k1 _ y c1 c2
    obtain ⟨rfl, hc⟩ := y
    rw [List.getElem?_map, Option.map_eq_some_iff] at hc
    obtain ⟨c, hc', rfl⟩ := hc
    have hm : c ∈ l := List.mem_of_getElem? hc'
    refine ⟨hw _, ht c _ _ hm k1.ex ?_⟩
    refine ifB (fun e => ⟨.int c, by rw [List.getElem?_set_self (Nat.blt_eq.mp hj)], c1 _ (.int c) _ (.refl _ _) trivial (.int _) (by unfold tupD; rfl) ?_⟩) (fun e => c2 _ (.refl _ _) trivial ?_)
    · rw [take_succ_filter hc', if_pos e, List.map_append, hr]
      rfl
    · rw [take_succ_filter hc', if_neg (by rw [e]; exact Bool.false_ne_true), List.append_nil, hr]
  · intro H' ds k1 _ hn hr hl
    refine hd H' k1.ex ?_
    rw [hr] at hn
    rw [List.take_of_length_le (by rw [List.length_map]; exact Nat.le_refl _)] at hn
    exact hn
theorem filter_noneI {p : Int → Bool} {f : Int → PyData} : ∀ l : List Int, ((l.filter p).map f).isEmpty = l.all fun c => !p c
  | [] => rfl
  | a :: r => by
    rw [List.filter_cons]
    cases h : p a with
    | true =>
      rw [if_pos rfl]
      show false = _
      rw [List.all_cons, h]
      rfl
    | false =>
      rw [if_neg Bool.false_ne_true, List.all_cons, h, filter_noneI r]
      rfl
end Om
end PartY3
section PartY4
set_option Elab.async false
set_option linter.all false
set_option maxRecDepth 100000
set_option maxHeartbeats 400000
/-! The object Line, and how it fails. -/
namespace Om
open PySem PySem.Spec PyProof.Rows L2 He TL
section
variable {w : World} {K : Frg} {mg : Str → Option Value}
theorem Tx.ln (T : Tx w K mg) : SlX.SCls K (ga K "Line") := ⟨T.ln_pg, T.ln_ic, T.ln_po, T.ln_sa⟩
theorem Tx.s_at (T : Tx w K mg) : SlX.Slot1 K (ga K "Line") "at" (ma K (ga K "Line") "at") 0 := ⟨T.sl_at_at, T.sl_at_get, T.sl_at_tk, T.sl_at_ty, T.sl_at_ix, by decide⟩
theorem Tx.s_number (T : Tx w K mg) : SlX.Slot1 K (ga K "Line") "number" (ma K (ga K "Line") "number") 1 := ⟨T.sl_number_at, T.sl_number_get, T.sl_number_tk, T.sl_number_ty, T.sl_number_ix, by decide⟩
theorem Tx.s_words (T : Tx w K mg) : SlX.Slot1 K (ga K "Line") "words" (ma K (ga K "Line") "words") 2 := ⟨T.sl_words_at, T.sl_words_get, T.sl_words_tk, T.sl_words_ty, T.sl_words_ix, by decide⟩
end
/-- what the slots of a row hold -/
abbrev lnS (n : Int) (wa : Addr) (k : Int) : List (Option V) := [some (.int k), some (.int n), some (.ref wa)]
/-- a row at a: its index, its words, the index of the next one -/
def LnW (K : Frg) (H : Hp) (a : Addr) (n : Int) (ws : List Str) (k : Int) : Prop := ∃ dx wa, H a = some (SlX.SlO a (ga K "Line") dx (lnS n wa k)) ∧ H dx = some (.xd []) ∧ H wa = some (.lst (ws.map V.str))
/-- .. its dict and its list told -/
def LnX (K : Frg) (H : Hp) (a : Addr) (n : Int) (ws : List Str) (k : Int) (dx wa : Addr) : Prop := H a = some (SlX.SlO a (ga K "Line") dx (lnS n wa k)) ∧ H dx = some (.xd []) ∧ H wa = some (.lst (ws.map V.str))
theorem LnX.w {K : Frg} {H : Hp} {a : Addr} {n k : Int} {ws : List Str} {dx wa : Addr} (h : LnX K H a n ws k dx wa) : LnW K H a n ws k := ⟨dx, wa, h⟩
theorem LnX.ex {K : Frg} {H H' : Hp} {a : Addr} {n k : Int} {ws : List Str} {dx wa : Addr} (h : LnX K H a n ws k dx wa) (e : Evl.Ex H H') : LnX K H' a n ws k dx wa := ⟨e _ _ h.1, e _ _ h.2.1, e _ _ h.2.2⟩
theorem slo_ne {a C dx : Addr} {vs : List (Option V)} {o : HO} (h : ∀ f, o ≠ .ext f) : SlX.SlO a C dx vs ≠ o := fun z => by
  unfold SlX.SlO at z
  exact h _ z.symm
theorem ln_ntup {K : Frg} {H : Hp} {a : Addr} {n k : Int} {ws : List Str} (h : LnW K H a n ws k) : ∀ xs, ¬ L2.Rd H a (.tup xs) := fun xs z => by
  obtain ⟨dx, wa, h1, _⟩ := h
  rcases z with z | ⟨o, z⟩
  · rw [h1] at z
    exact slo_ne (fun f => by intro q; cases q) (Option.some.inj z)
  · rw [h1] at z
    exact slo_ne (fun f => by intro q; cases q) (Option.some.inj z)
theorem LnW.ex {K : Frg} {H H' : Hp} {a : Addr} {n k : Int} {ws : List Str} (h : LnW K H a n ws k) (e : Ex H H') : LnW K H' a n ws k := by
  obtain ⟨dx, wa, h1, h2, h3⟩ := h
  exact ⟨dx, wa, e _ _ h1, e _ _ h2, e _ _ h3⟩
theorem LnW.slt {K : Frg} {H : Hp} {a : Addr} {n k : Int} {ws : List Str} (h : LnW K H a n ws k) : ∃ dx wa, dx ≠ a ∧ wa ≠ a ∧ wa ≠ dx ∧ SlX.Slt H a (ga K "Line") dx (lnS n wa k) ∧ H wa = some (.lst (ws.map V.str)) := by
  obtain ⟨dx, wa, h1, h2, h3⟩ := h
  refine ⟨dx, wa, fun z => ?_, fun z => ?_, fun z => ?_, .inr ⟨h1, h2⟩, h3⟩
  · rw [z, h1] at h2
    exact slo_ne (fun f => by intro q; cases q) (Option.some.inj h2)
  · rw [z, h1] at h3
    exact slo_ne (fun f => by intro q; cases q) (Option.some.inj h3)
  · rw [z, h2] at h3
    cases h3
theorem LnX.slt {K : Frg} {H : Hp} {a : Addr} {n k : Int} {ws : List Str} {dx wa : Addr} (h : LnX K H a n ws k dx wa) : dx ≠ a ∧ wa ≠ a ∧ wa ≠ dx ∧ SlX.Slt H a (ga K "Line") dx (lnS n wa k) ∧ H wa = some (.lst (ws.map V.str)) := by
  obtain ⟨h1, h2, h3⟩ := h
  refine ⟨fun z => ?_, fun z => ?_, fun z => ?_, .inr ⟨h1, h2⟩, h3⟩
  · rw [z, h1] at h2
    exact slo_ne (fun f => by intro q; cases q) (Option.some.inj h2)
  · rw [z, h1] at h3
    exact slo_ne (fun f => by intro q; cases q) (Option.some.inj h3)
  · rw [z, h2] at h3
    cases h3
/-- the row's own store -/
theorem LnW.put {K : Frg} {H : Hp} {a dx wa : Addr} {n k j : Int} {ws : List Str} (hs : SlX.Slt H a (ga K "Line") dx (lnS n wa k)) (hd : dx ≠ a) (hw : H wa = some (.lst (ws.map V.str))) (h1 : wa ≠ a) (h2 : wa ≠ dx) :
    LnX K (SlX.slH H a (ga K "Line") dx (SlX.putS 0 (.int j) (lnS n wa k))) a n ws j dx wa ∧ Ky [a] H (SlX.slH H a (ga K "Line") dx (SlX.putS 0 (.int j) (lnS n wa k))) := by
  have e : SlX.putS 0 (.int j) (lnS n wa k) = lnS n wa j := rfl
  rw [e]
  rcases hs with ⟨_, z⟩ | ⟨ha, hdx⟩
  · cases z
  have hx : SlX.slH H a (ga K "Line") dx (lnS n wa j) dx = some (.xd []) := by
    unfold SlX.slH
    rw [upd_ne hd, upd_same]
  refine ⟨⟨upd_same, hx, (SlX.slH_ne h1 h2).trans hw⟩, fun b o hb q => ?_, Tk.xb (a := a) (fun b o hb q => ?_) (ln_ntup ⟨dx, wa, ha, hdx, hw⟩)⟩
  all_goals
    have hb' : b ≠ a := by simpa using hb
    by_cases hbd : b = dx
    · subst hbd
      rw [hx, ← hdx, q]
    · exact (SlX.slH_ne hb' hbd).trans q
section
variable {w : World} {K : Frg} {mg : Str → Option Value} {H : Hp} {a : Addr} {n k : Int} {ws : List Str} {Q : VK}
/-- a slot is read -/
theorem rd_at (T : Tx w K mg) (h : LnW K H a n ws k) (q : Q (.int k) H) : ∃ a' C dx p vs i v, V.ref a = .ref a' ∧ SlX.Slt H a' C dx vs ∧ SlX.SCls K C ∧ SlX.Slot1 K C "at" p i ∧ vs[i]? = some (some v) ∧ Q v H := by
  obtain ⟨dx, wa, _, _, _, hs, _⟩ := h.slt
  exact ⟨a, _, dx, _, _, 0, _, rfl, hs, T.ln, T.s_at, rfl, q⟩
theorem rd_number (T : Tx w K mg) (h : LnW K H a n ws k) (q : Q (.int n) H) : ∃ a' C dx p vs i v, V.ref a = .ref a' ∧ SlX.Slt H a' C dx vs ∧ SlX.SCls K C ∧ SlX.Slot1 K C "number" p i ∧ vs[i]? = some (some v) ∧ Q v H := by
  obtain ⟨dx, wa, _, _, _, hs, _⟩ := h.slt
  exact ⟨a, _, dx, _, _, 1, _, rfl, hs, T.ln, T.s_number, rfl, q⟩
theorem rd_words (T : Tx w K mg) (h : LnW K H a n ws k) (q : ∀ wa, H wa = some (.lst (ws.map V.str)) → Q (.ref wa) H) : ∃ a' C dx p vs i v, V.ref a = .ref a' ∧ SlX.Slt H a' C dx vs ∧ SlX.SCls K C ∧ SlX.Slot1 K C "words" p i ∧ vs[i]? = some (some v) ∧ Q v H := by
  obtain ⟨dx, wa, _, _, _, hs, hw⟩ := h.slt
  exact ⟨a, _, dx, _, _, 2, _, rfl, hs, T.ln, T.s_words, rfl, q wa hw⟩
end
/-- InvalidText(row = r, word = k) leaves; all but S stands as in H -/
def Fails (K : Frg) (S : List Addr) (H : Hp) (r k : Int) (E : XK) : Prop := ∀ d H', Ky S H H' → H' d = some (.xd [("row", .int r), ("word", .int k)]) → E (.ref (ga K "InvalidText")) (some d) H'
theorem Fails.go {K : Frg} {S : List Addr} {H H' : Hp} {r k : Int} {E : XK} (h : Fails K S H r k E) (e : Ky S H H') : Fails K S H' r k E := fun d H2 k2 q => h d H2 (e.trans k2) q
theorem Fails.less {K : Frg} {S S' : List Addr} {H : Hp} {r k : Int} {E : XK} (h : Fails K S H r k E) (e : ∀ a ∈ S', a ∈ S) : Fails K S' H r k E := fun d H2 k2 q => h d H2 (k2.mono e) q
/-- a statement that is not reached -/
theorem ps_never {X : Cx} {st : Stmt} : PS X st (fun _ _ _ => False) := ⟨fun _ _ _ _ _ _ h => False.elim h⟩
/-- tuple + tuple -/
theorem catA {K : Frg} {H : Hp} {a b : Addr} {xs ys : List V} {Q : VK} (ha : SqT K H a xs) (hb : SqT K H b ys) (hz : xs.length + ys.length ≤ 100000) (k : ∀ p H1, Ex H H1 → SqT K H1 p (xs ++ ys) → Q (.ref p) H1) : rCatA K (.ref a) (.ref b) H Q := by
  refine ⟨a, b, xs, ys, rfl, rfl, ha, hb, Evl.sz_of hz, fun e => ?_, fun _ e => ?_, fun _ _ p hp => k p _ (ex_new hp) (.of upd_same)⟩
  · subst e
    exact k b H (Evl.Ex.refl H) hb
  · subst e
    exact k a H (Evl.Ex.refl H) (by rw [List.append_nil]; exact ha)
/-- a list of rows changes -/
theorem LnW.away {K : Frg} {H : Hp} {a D : Addr} {n k : Int} {ws : List Str} {las : List Addr} {o : HO} (h : LnW K H a n ws k) (hD : H D = some (.lst (las.map V.ref))) (hw : ws ≠ []) : LnW K (upd H D o) a n ws k := by
  obtain ⟨dx, wa, h1, h2, h3⟩ := h
  refine ⟨dx, wa, ?_, ?_, ?_⟩
  · rw [upd_ne (show a ≠ D from fun z => by
      rw [z, hD] at h1
      exact slo_ne (fun f => by intro q; cases q) (Option.some.inj h1).symm)]
    exact h1
  · rw [upd_ne (show dx ≠ D from fun z => by
      rw [z, hD] at h2
      cases h2)]
    exact h2
  · rw [upd_ne (show wa ≠ D from fun z => by
      rw [z, hD] at h3
      cases ws with
      | nil => exact hw rfl
      | cons w r =>
        cases las with
        | nil => simp at h3
        | cons l m => simp at h3)]
    exact h3
end Om
end PartY4
section PartY5
set_option Elab.async false
set_option linter.all false
set_option maxRecDepth 100000
set_option maxHeartbeats 400000
/-! Rules that name the written part: for a comprehension's block, whose readings must not name the block. -/
namespace Om
open PySem PySem.Spec PyProof.Rows L2 He TL
section
variable {X : Cx} {K : Frg}
theorem kOp {f : Value → Value → Sem Value} {r : Frg → R2} (hK : X.K = K) (h : OpR X f (r X.K)) : OpR X f (r K) := hK ▸ h
theorem kIx {r : Frg → R2} (hK : X.K = K) (h : IxR X (r X.K)) : IxR X (r K) := hK ▸ h
theorem kSl {r : Frg → V → Option Int → Option Int → Hp → VK → Prop} (hK : X.K = K) (h : SlR X (r X.K)) : SlR X (r K) := hK ▸ h
theorem kCall {f : Value} {r : Frg → List V → Hp → VK → Prop} (hK : X.K = K) (h : CallR X f (r X.K)) : CallR X f (r K) := hK ▸ h
theorem kMt {id : String} {r : Frg → V → List V → Hp → VK → Prop} (hK : X.K = K) (h : MtR X id (r X.K)) : MtR X id (r K) := hK ▸ h
theorem kE {e : Expr} {t : Frg → TE} (hK : X.K = K) (h : PE X e (t X.K)) : PE X e (t K) := hK ▸ h
theorem pe_bmK {T id : String} {name : Str} {r : V → List V → Hp → VK → Prop} {o e : Expr} {es : List Expr} {to : TE} {t : TA} {apos cpos : Pos} (hK : X.K = K) (pa : PlainAttrs T) (slot : Slot T name id) (hty : typeOf (.builtin id) = pure (.type "method_descriptor")) (hm : MtR X id r) (ho : PE X o to) (ha : PA X (e :: es) t)
    (hbase : attributeBase o name X.env (eval o X.env) = eval o X.env := by rfl)
    (hfew : ((backTo cpos (starEach (e :: es) X.env)).all (fun x => !x.1) && (backToKw cpos (keywordEach [] X.env)).all (fun x => x.1.isSome)
      && decide ((e :: es).length + ([] : List Keyword).length + (if ([] : List Keyword).isEmpty then 0 else 1) < 30)) = true := by rfl)
    (hline : (apos.endLine == cpos.line) = true := by rfl) (hs : starEach (e :: es) X.env = (false, eval e X.env) :: starEach es X.env := by rfl) (hplain : (backTo cpos (starEach es X.env)).any (·.1) = false := by rfl) :
    PE X (.Call (.Attribute o name apos) (e :: es) [] cpos) (tBM K T r to t) := hK ▸ pe_bm pa slot hty hm ho ha hbase hfew hline hs hplain
end
/-- rows change, another one stands -/
theorem LnW.keep {K : Frg} {S : List Addr} {H H' : Hp} {a : Addr} {n k : Int} {ws : List Str} (h : LnW K H a n ws k) (ky : Ky S H H') (hS : ∀ s ∈ S, ∃ n ws k, LnW K H s n ws k) (ha : a ∉ S) : LnW K H' a n ws k := by
  obtain ⟨dx, wa, h1, h2, h3⟩ := h
  have no : ∀ {b : Addr} {o : HO}, H b = some o → (∀ f, o ≠ .ext f) → b ∉ S := fun {b o} hb ho hm => by
    obtain ⟨n', ws', k', d', w', e1, _⟩ := hS b hm
    rw [hb] at e1
    exact slo_ne ho (Option.some.inj e1).symm
  exact ⟨dx, wa, ky.1 _ _ ha h1, ky.1 _ _ (no h2 fun f q => by cases q) h2, ky.1 _ _ (no h3 fun f q => by cases q) h3⟩
theorem LnX.keep {K : Frg} {S : List Addr} {H H' : Hp} {a dx wa : Addr} {n k : Int} {ws : List Str} (h : LnX K H a n ws k dx wa) (ky : Ky S H H') (hS : ∀ s ∈ S, ∃ n ws k, LnW K H s n ws k) (ha : a ∉ S) : LnX K H' a n ws k dx wa := by
  obtain ⟨h1, h2, h3⟩ := h
  have no : ∀ {b : Addr} {o : HO}, H b = some o → (∀ f, o ≠ .ext f) → b ∉ S := fun {b o} hb ho hm => by
    obtain ⟨n', ws', k', d', w', e1, _⟩ := hS b hm
    rw [hb] at e1
    exact slo_ne ho (Option.some.inj e1).symm
  exact ⟨ky.1 _ _ ha h1, ky.1 _ _ (no h2 fun f q => by cases q) h2, ky.1 _ _ (no h3 fun f q => by cases q) h3⟩
/-- what a row does not reach changes; H0: where the row was already and r was not -/
theorem LnX.put {K : Frg} {H H0 : Hp} {a dx wa r : Addr} {n n' k k' : Int} {ws ws' : List Str} {o : HO} (h : LnX K H a n ws k dx wa) (h0 : LnX K H0 a n' ws' k' dx wa) (hr : H0 r = none) : LnX K (upd H r o) a n ws k dx wa := by
  obtain ⟨h1, h2, h3⟩ := h
  obtain ⟨g1, g2, g3⟩ := h0
  exact ⟨by rw [upd_ne (ne_of_none g1 hr)]; exact h1, by rw [upd_ne (ne_of_none g2 hr)]; exact h2, by rw [upd_ne (ne_of_none g3 hr)]; exact h3⟩
/-- a list stands when rows change -/
theorem lst_keep {K : Frg} {S : List Addr} {H H' : Hp} {b : Addr} {xs : List V} (h : H b = some (.lst xs)) (ky : Ky S H H') (hS : ∀ s ∈ S, ∃ n ws k, LnW K H s n ws k) : H' b = some (.lst xs) := by
  refine ky.1 _ _ (fun hm => ?_) h
  obtain ⟨n', ws', k', d', w', e1, _⟩ := hS b hm
  rw [h] at e1
  exact slo_ne (fun f q => by cases q) (Option.some.inj e1).symm
/-- rows at las -/
def RowsAt (K : Frg) (H : Hp) (las : List Addr) (rws : List (List Str)) : Prop := las.length = rws.length ∧ ∀ (j : Nat) (a : Addr) (ws : List Str), las[j]? = some a → rws[j]? = some ws → LnW K H a (j : Int) ws 0
theorem RowsAt.at {K : Frg} {H : Hp} {las : List Addr} {rws : List (List Str)} (h : RowsAt K H las rws) {s : Addr} (hs : s ∈ las) : ∃ n ws k, LnW K H s n ws k := by
  obtain ⟨j, hj, e⟩ := List.getElem_of_mem hs
  have e1 : las[j]? = some s := by rw [List.getElem?_eq_getElem hj, e]
  have hj2 : j < rws.length := by rw [← h.1]; exact hj
  exact ⟨_, _, _, h.2 j s rws[j] e1 (List.getElem?_eq_getElem hj2)⟩
end Om
end PartY5
section PartY6
set_option Elab.async false
set_option linter.all false
set_option maxRecDepth 100000
set_option maxHeartbeats 4000000
/-! A comprehension over a range. -/
namespace Om
open PySem PySem.Spec PyProof.Rows L2 He TL
def rng (lo : Int) (n : Nat) : List Int := (List.range n).map fun (i : Nat) => lo + (i : Int)
theorem rng_succ (lo : Int) (n : Nat) : rng lo (n + 1) = rng lo n ++ [lo + (n : Int)] := by
  unfold rng
  rw [List.range_succ, List.map_append]
  rfl
/-- [k for k in range(lo, lo + n) if ..] -/
theorem lcR {K : Frg} {lo : Int} {n : Nat} {j : Nat} {tt : TT} {vs : List Nat} {σ : L2.St} {H1 : Hp} {D : Addr} {Qd : Hp → Prop} (p : Int → Bool) (hD : H1 D = none) (hz : n ≤ 40000)
    (hw : ∀ x, wipe ((wipe σ vs).set j (some x)) vs = wipe σ vs) (hj : Nat.blt j (wipe σ vs).length = true) (ht : ∀ (i : Nat) H2 (Pt : Bool → Hp → Prop), i < n → Ex H1 H2 → Pt (p (lo + i)) H2 → tt ((wipe σ vs).set j (some (.int (lo + i)))) H2 Pt)
    (hd : ∀ H', Ex H1 H' → NewL K H' D (((rng lo n).filter p).map PyData.int) → Qd H') :
    ∃ W : Nat → Nat → Hp → Prop, (∃ m, W 0 m (upd H1 D (.lst []))) ∧ ∀ i m H, W i m H →
      ((Itr lo n).stop i H ∧ Qd H) ∨ ((Itr lo n).go i H ∧ ∃ Nx : Hp → Prop, (∀ H', Nx H' → ∃ m', m' < m ∧ W (i + 1) m' H') ∧ ∀ x H', (Itr lo n).yld i H x H' → (gName j) x (wipe σ vs) H' fun σ2 H2 => wipe σ2 vs = wipe σ vs ∧ tt σ2 H2 fun b H3 =>
        if b = true then (tVar j) σ2 H3 fun y H4 => ∃ acc, H4 D = some (.lst acc) ∧ acc.length < sizeLine ∧ Nx (upd H4 D (.lst (acc ++ [y]))) else Nx H3) := by
  refine lcD (K := K) (S := []) (g := gName j) (tt := tt) (te := tVar j) (vs := vs) (σ := σ) (walk_range (lo := lo) (n := n)) hD (fun _ => True) (fun i ds => ds = ((rng lo i).filter p).map PyData.int) (by simp) hz (fun _ _ _ => trivial) (fun _ _ _ => trivial) trivial rfl ?_ ?_
  · intro i x H H' ds P1 P2 hi hr k1 _ y c1 c2
    obtain ⟨rfl, rfl⟩ := y
    refine ⟨hw _, ht i _ _ hi k1.ex ?_⟩
    have es : (rng lo (i + 1)).filter p = (rng lo i).filter p ++ (if p (lo + i) = true then [lo + (i : Int)] else []) := by
      rw [rng_succ, List.filter_append, List.filter_cons]
      rfl
    refine ifB (fun e => ⟨.int (lo + i), by rw [List.getElem?_set_self (Nat.blt_eq.mp hj)], c1 _ (.int (lo + i)) _ (.refl _ _) trivial (.int _) (by unfold tupD; rfl) ?_⟩) (fun e => c2 _ (.refl _ _) trivial ?_)
    · rw [es, if_pos e, List.map_append, hr]
      rfl
    · rw [es, if_neg (by rw [e]; exact Bool.false_ne_true), List.append_nil, hr]
  · intro H' ds k1 _ hn hr hl
    refine hd H' k1.ex ?_
    rw [hr] at hn
    exact hn
theorem rng_mem {lo : Int} {n : Nat} {x : Int} : x ∈ rng lo n ↔ lo ≤ x ∧ x < lo + n := by
  unfold rng
  rw [List.mem_map]
  constructor
  · rintro ⟨i, hi, rfl⟩
    have := List.mem_range.mp hi
    omega
  · intro h
    exact ⟨(x - lo).toNat, List.mem_range.mpr (by omega), by omega⟩
end Om
namespace Om
open PySem PySem.Spec PyProof.Rows L2 He TL
theorem rng_cons (lo : Int) (n : Nat) : rng lo (n + 1) = lo :: rng (lo + 1) n := by
  unfold rng
  rw [List.range_succ_eq_map, List.map_cons, List.map_map]
  congr 1
  · simp
  · refine List.map_congr_left fun i _ => ?_
    show lo + ((i + 1 : Nat) : Int) = lo + 1 + (i : Int)
    omega
theorem filter_first {p : Int → Bool} : ∀ (n : Nat) (lo k : Int) (r : List Int), (rng lo n).filter p = k :: r → lo ≤ k ∧ k < lo + n ∧ p k = true ∧ ∀ m, lo ≤ m → m < k → p m = false
  | 0, _, _, _, h => by cases h
  | n + 1, lo, k, r, h => by
    rw [rng_cons, List.filter_cons] at h
    cases e : p lo with
    | true =>
      rw [e, if_pos rfl] at h
      injection h with h1 h2
      subst h1
      exact ⟨by omega, by omega, e, fun m h1 h2 => by omega⟩
    | false =>
      rw [e, if_neg Bool.false_ne_true] at h
      obtain ⟨h1, h2, h3, h4⟩ := filter_first n (lo + 1) k r h
      refine ⟨by omega, by omega, h3, fun m hm hk => ?_⟩
      by_cases q : m = lo
      · rw [q]; exact e
      · exact h4 m (by omega) hk
theorem filter_all {p : Int → Bool} {n : Nat} {lo : Int} (h : (rng lo n).filter p = []) {m : Int} (h1 : lo ≤ m) (h2 : m < lo + n) : p m = false := by
  have := List.filter_eq_nil_iff.mp h m (rng_mem.mpr ⟨h1, h2⟩)
  cases e : p m with
  | false => rfl
  | true => exact absurd e this
end Om
end PartY6
section PartA2
set_option Elab.async false
set_option linter.all false
set_option maxRecDepth 100000
set_option maxHeartbeats 4000000
namespace Om
open PySem PySem.Spec PyProof.Rows L2 He TL
section
variable {w : World} {K : Frg} {mg : Str → Option Value} {base : Heap}
/-- is_rising of a text, of a tuple of ints -/
def sp_is_rising (K : Frg) : Sp := fun vs H Q _ => (∃ z : Str, vs = [.str z] ∧ z.cps.size ≤ 1000 ∧ ∀ H', Ex H H' → Q (.bl (rising (tl z))) H') ∨
  (∃ (a : Addr) (l : List Int), vs = [.ref a] ∧ SqT K H a (l.map V.int) ∧ l.length ≤ 1000 ∧ ∀ H', Ex H H' → Q (.bl (risingI l)) H')
theorem sc_is_rising : FnScope ["values", "one", "other"] ["values"] (defScope s_is_rising) := ⟨rfl, rfl, rfl, by decide +kernel, rfl, by decide +kernel, by decide +kernel⟩
theorem ok_is_rising (T : Tx w K mg) : FnOk prg w K mg base CX0 1 (ga K "is_rising") (fdOf K (ga K "is_rising")) ["values"] (sp_is_rising K) := by
  refine T.f_is_rising.ok sc_is_rising (fun vs H Q E h => ?_) (fun cdv A outer s H vs Q E hr h => ?_)
  · rcases h with ⟨z, rfl, _⟩ | ⟨a, l, rfl, _⟩ <;> rfl
  · rcases h with ⟨z, rfl, hz, k⟩ | ⟨a, l, rfl, hl, hz, k⟩
    · refine ⟨_, PSs.nox (pss_one (ps_ret (pe_callB (cr_all rfl) (by rfl) T.b_all (by decide +kernel) (pa_cons (pe_lc (own := [("one", 1), ("other", 2)]) (g := gTup K 2 (gCons (gName 1) (gCons (gName 2) gNil))) rfl sc_is_rising.nd (pi_zipX (by rfl) T.b_zip (pa_cons (pv 0) (pa_cons (pe_slice sl_str (pv 0) (po_some pe_int) po_none) pa_nil))) (blkOk_by (own := [("one", 1), ("other", 2)]) (N := ["values", "one", "other"]) (sc := defScope s_is_rising) (by decide +kernel)) (fun _ _ _ _ _ => pg_tup rfl (pgs_cons (pg_name (i := 1) sc_is_rising.nd rfl (Or.inl rfl) (Or.inr rfl)) (pgs_cons (pg_name (i := 2) sc_is_rising.nd rfl (Or.inl rfl) (Or.inr rfl)) pgs_nil))) (fun _ _ _ _ _ => pts_nil) (fun _ _ _ _ _ => (pe_cmpR op_lt_str (pv 1) (pv 2) (nomark _)))) pa_nil)))), ?_⟩
      have hc : (cutS z (some 1) none).cps.toList = z.cps.toList.drop 1 := tl_cut1 z
      have hcs : (cutS z (some 1) none).cps.size = z.cps.size - 1 := by
        have e := congrArg List.length hc
        rw [List.length_drop, Array.length_toList, Array.length_toList] at e
        exact e
      refine ⟨_, rfl, _, rfl, _, rfl, _, rfl, Evl.sz_of (show z.length ≤ 100000 from Nat.le_trans (show z.cps.size ≤ 1000 from hz) (by decide)), .inl ⟨_, _, rfl, fun D hD => ?_⟩⟩
      refine lcD (K := K) (S := []) walk_pairs hD (fun _ => True) (fun i ds => ds = ((List.range i).map fun j => decide ((tl z).getD j 0 < (tl z).getD (j + 1) 0)).map PyData.bool) (by simp) (by omega) (fun _ _ _ => trivial) (fun _ _ _ => ⟨trivial, trivial⟩) trivial rfl ?_ ?_
      · intro i x H1 H2 ds P1 P2 hi hr k1 _ y c1 c2
        obtain ⟨T0, x0, y0, rfl, hT, rfl, ⟨a, ha, rfl⟩, ⟨b, hb, rfl⟩⟩ := y
        refine ⟨T0, _, rfl, .of upd_same, rfl, _, _, rfl, _, _, rfl, rfl, rfl, tY ?_⟩
        refine ⟨_, rfl, _, rfl, _, _, rfl, rfl, ?_⟩
        refine c1 _ (.bool (decide ([a] < [b]))) _ (.new hT) trivial (.bl _) rfl ?_
        have ea : (tl z).getD i 0 = a := by
          have z1 : (tl z)[i]? = some a := by rw [← ha]; exact Array.getElem?_toList
          rw [List.getD_eq_getElem?_getD, z1]
          rfl
        have eb : (tl z).getD (i + 1) 0 = b := by
          have z1 : ((cutS z (some 1) none).cps.toList)[i]? = some b := by rw [← hb]; exact Array.getElem?_toList
          rw [hc, List.getElem?_drop, Nat.add_comm 1 i] at z1
          rw [List.getD_eq_getElem?_getD, z1]
          rfl
        rw [range_succ_map, List.map_append, hr, lt1, ea, eb]
        rfl
      · intro H' ds k1 _ hn hr hl
        obtain ⟨xs, hx, hd, _⟩ := hn
        rw [hr] at hd
        have ex := dps_bool_eq hd
        refine ⟨D, _, rfl, .of (by rw [hx, ex]), ?_⟩
        have e : ((List.range (min z.cps.size (cutS z (some 1) none).cps.size)).map fun j => decide ((tl z).getD j 0 < (tl z).getD (j + 1) 0)).all id = rising (tl z) := by
          rw [hcs, Nat.min_eq_right (Nat.sub_le _ _)]
          exact nbS_all (tl z)
        rw [e]
        exact k _ k1.ex
    · refine ⟨_, PSs.nox (pss_one (ps_ret (pe_callB (cr_all rfl) (by rfl) T.b_all (by decide +kernel) (pa_cons (pe_lc (own := [("one", 1), ("other", 2)]) (g := gTup K 2 (gCons (gName 1) (gCons (gName 2) gNil))) rfl sc_is_rising.nd (pi_zipX (by rfl) T.b_zip (pa_cons (pv 0) (pa_cons (pe_slice sl_tupA (pv 0) (po_some pe_int) po_none) pa_nil))) (blkOk_by (own := [("one", 1), ("other", 2)]) (N := ["values", "one", "other"]) (sc := defScope s_is_rising) (by decide +kernel)) (fun _ _ _ _ _ => pg_tup rfl (pgs_cons (pg_name (i := 1) sc_is_rising.nd rfl (Or.inl rfl) (Or.inr rfl)) (pgs_cons (pg_name (i := 2) sc_is_rising.nd rfl (Or.inl rfl) (Or.inr rfl)) pgs_nil))) (fun _ _ _ _ _ => pts_nil) (fun _ _ _ _ _ => (pe_cmpR op_lt (pv 1) (pv 2) (nomark _)))) pa_nil)))), ?_⟩
      refine ⟨_, rfl, _, rfl, _, rfl, ?_⟩
      unfold tNoPart
      refine slA hl fun b H0 e0 hb => .inr ⟨a, b, _, _, rfl, Evl.ex_t e0 hl, hb, fun D hD => ?_⟩
      have hc : cutV (l.map V.int) (some 1) none = (l.drop 1).map V.int := (cutV_from _ 1).trans (by rw [List.map_drop])
      rw [hc]
      rw [hc] at hb
      refine lcD (K := K) (S := []) walk_pairs hD (fun _ => True) (fun i ds => ds = ((List.range i).map fun j => decide (l.getD j 0 < l.getD (j + 1) 0)).map PyData.bool) (by simp) (by simp; omega) (fun _ _ _ => trivial) (fun H' k1 _ => ⟨Evl.ex_t (e0.trans k1.ex) hl, Evl.ex_t k1.ex hb⟩) trivial rfl ?_ ?_
      · intro i x H1 H2 ds P1 P2 hi hr k1 _ y c1 c2
        obtain ⟨T0, x0, y0, rfl, hT, rfl, ha, hb'⟩ := y
        have ha : (l.map V.int)[i]? = some x0 := ha
        have hb' : ((l.drop 1).map V.int)[i]? = some y0 := hb'
        rw [List.getElem?_map, Option.map_eq_some_iff] at ha hb'
        obtain ⟨p, hp, rfl⟩ := ha
        obtain ⟨q, hq, rfl⟩ := hb'
        refine ⟨T0, _, rfl, .of upd_same, rfl, _, _, rfl, _, _, rfl, rfl, rfl, tY ?_⟩
        refine ⟨_, rfl, _, rfl, _, _, rfl, rfl, ?_⟩
        refine c1 _ (.bool (decide (p < q))) _ (.new hT) trivial (.bl _) rfl ?_
        have ea : l.getD i 0 = p := by
          rw [List.getD_eq_getElem?_getD, hp]
          rfl
        have eb : l.getD (i + 1) 0 = q := by
          rw [List.getElem?_drop, Nat.add_comm 1 i] at hq
          rw [List.getD_eq_getElem?_getD, hq]
          rfl
        rw [range_succ_map, List.map_append, hr, ea, eb]
        rfl
      · intro H' ds k1 _ hn hr hl'
        obtain ⟨xs, hx, hd, _⟩ := hn
        rw [hr] at hd
        have ex := dps_bool_eq hd
        refine ⟨D, _, rfl, .of (by rw [hx, ex]), ?_⟩
        have e : ((List.range (min (l.map V.int).length ((l.drop 1).map V.int).length)).map fun j => decide (l.getD j 0 < l.getD (j + 1) 0)).all id = risingI l := by
          rw [List.length_map, List.length_map, List.length_drop, Nat.min_eq_right (Nat.sub_le _ _)]
          exact nbI_all l
        rw [e]
        exact k _ (e0.trans k1.ex)
end
end Om
end PartA2
section PartA3
set_option Elab.async false
set_option linter.all false
set_option maxRecDepth 100000
set_option maxHeartbeats 4000000
namespace Om
open PySem PySem.Spec PyProof.Rows L2 He TL
section
variable {w : World} {K : Frg} {mg : Str → Option Value} {base : Heap}
/-- is_number of an int -/
def sp_is_number : Sp := fun vs H Q _ => ∃ (v lo hi : Int), vs = [.int v, .int lo, .int hi] ∧ Q (.bl (decide (lo ≤ v) && decide (v ≤ hi))) H
theorem sc_is_number : FnScope ["value", "lowest", "highest"] ["value", "lowest", "highest"] (defScope s_is_number) := ⟨rfl, rfl, rfl, by decide +kernel, rfl, by decide +kernel, by decide +kernel⟩
theorem ok_is_number (T : Tx w K mg) : FnOk prg w K mg base CX0 1 (ga K "is_number") (fdOf K (ga K "is_number")) ["value", "lowest", "highest"] sp_is_number := by
  refine T.f_is_number.ok sc_is_number (fun vs H Q E h => ?_) (fun cdv A outer s H vs Q E hr h => ?_)
  · obtain ⟨v, lo, hi, rfl, _⟩ := h
    rfl
  · obtain ⟨v, lo, hi, rfl, k⟩ := h
    refine ⟨_, PSs.nox (pss_one (ps_ret (pe_and (pe_callB call_isi (by rfl) T.b_isinstance boot_isinstance (pa_cons (pv 0) (pa_cons (pe_bltn (v := .ty "int") (by rfl) T.b_int boot_int rfl) pa_nil))) (pe_and (pe_not (pe_callB call_isi (by rfl) T.b_isinstance boot_isinstance (pa_cons (pv 0) (pa_cons (pe_bltn (v := .ty "bool") (by rfl) T.b_bool boot_bool rfl) pa_nil)))) (pe_one (pe_chain op_le op_le (pv 1) (pv 0) (pv 2))))))), ?_⟩
    refine ⟨_, rfl, _, _, _, _, _, rfl, .ty "int", .base (.int _), kit_ty (by decide +kernel), true, rfl, iteT ?_⟩
    refine ⟨_, rfl, _, _, _, _, _, rfl, .ty "bool", .base (.int _), kit_ty (by decide +kernel), false, rfl, true, rfl, iteT ?_⟩
    refine ⟨_, rfl, _, rfl, _, _, rfl, rfl, _, rfl, ?_⟩
    refine ifB (fun e => ⟨_, rfl, _, _, rfl, rfl, ?_⟩) (fun e => ?_)
    · rw [e] at k
      exact k
    · rw [e] at k
      exact k
/-- are_signs -/
def sp_are_signs : Sp := fun vs H Q _ => ∃ (z y : Str), vs = [.str z, .str y] ∧ PyData.strOk z = true ∧ z.cps.size ≤ 1000 ∧ ∀ b H', b = isSig (tl y) z → Ex H H' → Q (.bl b) H'
theorem sc_are_signs : FnScope ["signs", "known", "sign"] ["signs", "known"] (defScope s_are_signs) := ⟨rfl, rfl, rfl, by decide +kernel, rfl, by decide +kernel, by decide +kernel⟩
theorem ok_are_signs (T : Tx w K mg) : FnOk prg w K mg base CX0 2 (ga K "are_signs") (fdOf K (ga K "are_signs")) ["signs", "known"] sp_are_signs := by
  refine T.f_are_signs.ok sc_are_signs (fun vs H Q E h => ?_) (fun cdv A outer s H vs Q E hr h => ?_)
  · obtain ⟨z, y, rfl, _⟩ := h
    rfl
  · obtain ⟨z, y, rfl, ok, hz, k⟩ := h
    refine ⟨_, PSs.nox (pss_one (ps_ret (pe_and (pe_cmpR op_gt (pe_callB call_len_str (by rfl) T.b_len PySem.boot_len (pa_cons (pv 0) pa_nil)) pe_int (nomark _)) (pe_and (pe_call (ok_is_rising T) (hr.mono (by decide)) (by rfl) T.g_is_rising T.f_is_rising.kp T.p_is_rising .nil pass0 (pa_cons (pv 0) pa_nil)) (pe_one (pe_cmpR (op_eqD hr.units) (pe_lc (own := [("sign", 2)]) (g := gName 2) rfl sc_are_signs.nd (pi_str (pv 0)) (blkOk_by (own := [("sign", 2)]) (N := ["signs", "known", "sign"]) (sc := defScope s_are_signs) (by decide +kernel)) (fun _ _ _ _ _ => pg_name (i := 2) sc_are_signs.nd rfl (Or.inl rfl)) (fun _ _ _ _ _ => pts_one (pt_cmpR op_notIn_sign (pv 2) (pv 1) (by rfl))) (fun _ _ _ _ _ => (pv 2))) (pe_lst pa_nil) (nomark _))))))), ?_⟩
    refine ⟨_, rfl, _, rfl, Evl.sz_of (show z.length ≤ 100000 from Nat.le_trans (show z.cps.size ≤ 1000 from hz) (by decide)), _, _, rfl, rfl, _, rfl, ?_⟩
    have hl : (z.length : Int) = ((tl z).length : Int) := by rw [len_tl]
    refine ifB (fun e1 => ?_) (fun e1 => ?_)
    · refine ⟨_, rfl, .inl ⟨z, rfl, hz, fun H1 x1 => ⟨_, rfl, ?_⟩⟩⟩
      have e1' : tl z ≠ [] := fun q => by
        rw [hl, q] at e1
        exact absurd (of_decide_eq_true e1) (by decide)
      refine ifB (fun e2 => ?_) (fun e2 => ?_)
      · refine ⟨_, rfl, z, rfl, fun D hD => lcS (K := K) (fun c => !decide (c ∈ tl y)) hD ok (by omega) (fun _ => rfl) rfl (fun c H2 Pt hc x2 hp => ⟨_, rfl, _, rfl, c, y, rfl, rfl, _, rfl, hp⟩) ?_⟩
        intro H2 x2 hn
        refine ⟨by decide, fun p hp => nil_eq (hn.ex (ex_new hp)) upd_same ?_⟩
        rw [filter_none]
        refine k _ _ ?_ ((x1.trans x2).trans (ex_new hp))
        unfold isSig
        rw [decide_eq_true e1', e2]
        simp only [Bool.not_not, Bool.true_and]
      · refine k _ _ ?_ x1
        unfold isSig
        rw [e2]
        simp
    · refine k _ _ ?_ (Evl.Ex.refl H)
      have e1' : tl z = [] := by
        cases q : tl z with
        | nil => rfl
        | cons a r =>
          rw [hl, q] at e1
          exact absurd (of_decide_eq_false e1) (by simp)
      unfold isSig
      rw [e1']
      rfl
/-- are_turns -/
def sp_are_turns (K : Frg) : Sp := fun vs H Q _ => ∃ (a : Addr) (l : List Int), vs = [.ref a] ∧ SqT K H a (l.map V.int) ∧ l.length ≤ 1000 ∧ ∀ b H', b = (!l.isEmpty && (l.all fun t => decide (0 ≤ t) && decide (t ≤ 3)) && risingI l) → Ex H H' → Q (.bl b) H'
theorem sc_are_turns : FnScope ["turns", "turn"] ["turns"] (defScope s_are_turns) := ⟨rfl, rfl, rfl, by decide +kernel, rfl, by decide +kernel, by decide +kernel⟩
theorem ok_are_turns (T : Tx w K mg) : FnOk prg w K mg base CX0 2 (ga K "are_turns") (fdOf K (ga K "are_turns")) ["turns"] (sp_are_turns K) := by
  refine T.f_are_turns.ok sc_are_turns (fun vs H Q E h => ?_) (fun cdv A outer s H vs Q E hr h => ?_)
  · obtain ⟨a, l, rfl, _⟩ := h
    rfl
  · obtain ⟨a, l, rfl, ha, hz, k⟩ := h
    refine ⟨_, PSs.nox (pss_one (ps_ret (pe_and (pe_cmpR op_gt (pe_callB call_len_seq (by rfl) T.b_len PySem.boot_len (pa_cons (pv 0) pa_nil)) pe_int (nomark _)) (pe_and (pe_cmpR (op_eqD hr.units) (pe_lc (own := [("turn", 1)]) (g := gName 1) rfl sc_are_turns.nd (pi_tup (pv 0)) (blkOk_by (own := [("turn", 1)]) (N := ["turns", "turn"]) (sc := defScope s_are_turns) (by decide +kernel)) (fun _ _ _ _ _ => pg_name (i := 1) sc_are_turns.nd rfl (Or.inl rfl)) (fun _ _ _ _ _ => pts_one (pt_not (pt_val (pe_call (ok_is_number T) (hr.mono (by decide)) (by rfl) T.g_is_number T.f_is_number.kp T.p_is_number .nil pass0 (pa_cons (pv 1) (pa_cons pe_int (pa_cons pe_int pa_nil))))))) (fun _ _ _ _ _ => (pv 1))) (pe_lst pa_nil) (nomark _)) (pe_one (pe_call (ok_is_rising T) (hr.mono (by decide)) (by rfl) T.g_is_rising T.f_is_rising.kp T.p_is_rising .nil pass0 (pa_cons (pv 0) pa_nil))))))), ?_⟩
    refine ⟨_, rfl, a, _, rfl, .inr ha, _, _, rfl, rfl, _, rfl, ?_⟩
    rw [List.length_map]
    refine ifB (fun e1 => ?_) (fun e1 => ?_)
    · have e1' : l.isEmpty = false := by
        cases l with
        | nil => cases e1
        | cons a r => rfl
      refine ⟨_, rfl, a, rfl, ⟨_, ha⟩, fun D hD => lcI (K := K) (fun c => !(decide (0 ≤ c) && decide (c ≤ 3))) hD ha (by omega) (fun _ => rfl) rfl (fun c H2 Pt hc x2 hp => ?_) ?_⟩
      · exact ⟨_, rfl, c, 0, 3, rfl, _, rfl, hp⟩
      · intro H2 x2 hn
        refine ⟨by decide, fun p hp => nil_eq (hn.ex (ex_new hp)) upd_same ⟨_, rfl, ?_⟩⟩
        rw [filter_noneI]
        simp only [Bool.not_not]
        refine ifB (fun e2 => ?_) (fun e2 => ?_)
        · have x3 := x2.trans (ex_new (o := .lst []) hp)
          refine ⟨_, rfl, .inr ⟨a, l, rfl, Evl.ex_t x3 ha, hz, fun H3 x4 => k _ _ ?_ (x3.trans x4)⟩⟩
          rw [e1', e2]
          rfl
        · refine k _ _ ?_ (x2.trans (ex_new hp))
          rw [e2]
          simp
    · refine k _ _ ?_ (Evl.Ex.refl H)
      have e1' : l = [] := by
        cases l with
        | nil => rfl
        | cons a r => exact absurd (of_decide_eq_false e1) (by simp)
      rw [e1']
      rfl
/-- is_range -/
def sp_is_range : Sp := fun vs H Q _ => ∃ (a b : Int), vs = [.int a, .int b] ∧ ∀ r H', r = (decide (0 ≤ a) && decide (a ≤ 20) && (decide (a ≤ b) && decide (b ≤ 20))) → Ex H H' → Q (.bl r) H'
theorem sc_is_range : FnScope ["least", "most"] ["least", "most"] (defScope s_is_range) := ⟨rfl, rfl, rfl, by decide +kernel, rfl, by decide +kernel, by decide +kernel⟩
theorem ok_is_range (T : Tx w K mg) : FnOk prg w K mg base CX0 2 (ga K "is_range") (fdOf K (ga K "is_range")) ["least", "most"] sp_is_range := by
  refine T.f_is_range.ok sc_is_range (fun vs H Q E h => ?_) (fun cdv A outer s H vs Q E hr h => ?_)
  · obtain ⟨a, b, rfl, _⟩ := h
    rfl
  · obtain ⟨a, b, rfl, k⟩ := h
    refine ⟨_, PSs.nox (pss_one (ps_ret (pe_and (pe_call (ok_is_number T) (hr.mono (by decide)) (by rfl) T.g_is_number T.f_is_number.kp T.p_is_number .nil pass0 (pa_cons (pv 0) (pa_cons pe_int (pa_cons (pe_glob (v := .int _) (by rfl) T.c_MAX_PACES.choose_spec ⟨_, rfl⟩) pa_nil)))) (pe_one (pe_call (ok_is_number T) (hr.mono (by decide)) (by rfl) T.g_is_number T.f_is_number.kp T.p_is_number .nil pass0 (pa_cons (pv 1) (pa_cons (pv 0) (pa_cons (pe_glob (v := .int _) (by rfl) T.c_MAX_PACES.choose_spec ⟨_, rfl⟩) pa_nil)))))))), ?_⟩
    refine ⟨_, rfl, a, 0, 20, rfl, _, rfl, ?_⟩
    refine ifB (fun e1 => ?_) (fun e1 => ?_)
    · refine ⟨_, rfl, _, rfl, b, a, 20, rfl, k _ _ ?_ (Evl.Ex.refl H)⟩
      rw [e1]
      rfl
    · refine k _ _ ?_ (Evl.Ex.refl H)
      rw [e1]
      rfl
end
end Om
end PartA3
section PartA4
set_option Elab.async false
set_option linter.all false
set_option maxRecDepth 100000
set_option maxHeartbeats 400000
namespace Om
open PySem PySem.Spec PyProof.Rows L2 He TL
/-- an instruction as a row of words gives it -/
inductive Wf : List PyData → Prop
  | turn (ts : List Int) : ts ≠ [] → (∀ t ∈ ts, 0 ≤ t) → ts.length ≤ 1000 → Wf [.str "turn", .tuple (ts.map PyData.int)]
  | walk (a b : Int) : 0 ≤ a → 0 ≤ b → Wf [.str "walk", .int a, .int b]
  | untl (z : Str) : isSig knS z = true → z.cps.size ≤ 1000 → PyData.strOk z = true → Wf [.str "until", .str z]
  | towd (z : Str) : isSig knS z = true → z.cps.size ≤ 1000 → PyData.strOk z = true → Wf [.str "toward", .str z]
  | besd (t : Int) (z : Str) : 0 ≤ t → isSig knA z = true → z.cps.size ≤ 1000 → PyData.strOk z = true → Wf [.str "beside", .int t, .str z]
  | near (z : Str) (m : Int) : 0 ≤ m → isSig knA z = true → z.cps.size ≤ 1000 → PyData.strOk z = true → Wf [.str "near", .str z, .int m]
  | shor (s a b : Int) : 0 ≤ s → 0 ≤ a → 0 ≤ b → Wf [.str "shore", .int s, .int a, .int b]
section
variable {w : World} {K : Frg} {mg : Str → Option Value} {base : Heap}
theorem e_knS : tl ((("." : Str) ++ ("ABCDEFGHIJKLMNOPQRSTUVWXYZ" : Str))) = knS := by decide +kernel
theorem e_knA : tl ((("." : Str) ++ ("ABCDEFGHIJKLMNOPQRSTUVWXYZ" : Str)) ++ ("~" : Str)) = knA := by decide +kernel
/-- is_instruction -/
def sp_is_instruction (K : Frg) : Sp := fun vs H Q _ => ∃ (a : Addr) (xs : List V) (ds : List PyData), vs = [.ref a] ∧ SqT K H a xs ∧ DpAll K H xs ds ∧ Wf ds ∧ ∀ b H', b = goodIns ds → Ex H H' → Q (.bl b) H'
theorem sc_is_instruction : FnScope ["instruction", "word", "parts"] ["instruction"] (defScope s_is_instruction) := ⟨rfl, rfl, rfl, by decide +kernel, rfl, by decide +kernel, by decide +kernel⟩
theorem ok_is_instruction (T : Tx w K mg) : FnOk prg w K mg base CX0 3 (ga K "is_instruction") (fdOf K (ga K "is_instruction")) ["instruction"] (sp_is_instruction K) := by
  refine T.f_is_instruction.ok sc_is_instruction (fun vs H Q E h => ?_) (fun cdv A outer s H vs Q E hr h => ?_)
  · obtain ⟨a, xs, ds, rfl, _⟩ := h
    rfl
  · obtain ⟨a, xs, ds, rfl, ha, hd, wf, k⟩ := h
    refine ⟨_, PSs.nox (pss_cons (ps_asg (pv 0) (pg_star rfl (pgs_cons (pg_name (i := 1) sc_is_instruction.nd rfl (Or.inl rfl)) (pgs_starred (pgs_cons (pg_name (i := 2) sc_is_instruction.nd rfl (Or.inl rfl)) pgs_nil)))))
      (pss_cons (ps_if (pt_cmpR op_eq (pv 1) (pe_glob (v := .str _) (by rfl) T.c_TURN.choose_spec ⟨_, rfl⟩) (nomark _)) (pss_one (ps_ret (pe_call (ok_are_turns T) (hr.mono (by decide)) (by rfl) T.g_are_turns T.f_are_turns.kp T.p_are_turns .nil pass0 (pa_cons (pe_ix ix_list (pv 2) pe_int (fun _ _ => rfl)) pa_nil)))) pss_nil)
      (pss_cons (ps_if (pt_cmpR op_eq (pv 1) (pe_glob (v := .str _) (by rfl) T.c_WALK.choose_spec ⟨_, rfl⟩) (nomark _)) (pss_one (ps_ret (pe_call (ok_is_range T) (hr.mono (by decide)) (by rfl) T.g_is_range T.f_is_range.kp T.p_is_range .nil pass0 (pa_cons (pe_ix ix_list (pv 2) pe_int (fun _ _ => rfl)) (pa_cons (pe_ix ix_list (pv 2) pe_int (fun _ _ => rfl)) pa_nil))))) pss_nil)
      (pss_cons (ps_if (pt_cmpR op_in_seq (pv 1) (pe_tup (pa_cons (pe_glob (v := .str _) (by rfl) T.c_UNTIL.choose_spec ⟨_, rfl⟩) (pa_cons (pe_glob (v := .str _) (by rfl) T.c_TOWARD.choose_spec ⟨_, rfl⟩) pa_nil))) (by rfl)) (pss_one (ps_ret (pe_call (ok_are_signs T) (hr.mono (by decide)) (by rfl) T.g_are_signs T.f_are_signs.kp T.p_are_signs .nil pass0 (pa_cons (pe_ix ix_list (pv 2) pe_int (fun _ _ => rfl)) (pa_cons (pe_op op_add_str (pe_glob (v := .str _) (by rfl) T.c_LAND.choose_spec ⟨_, rfl⟩) (pe_glob (v := .str _) (by rfl) T.c_LETTERS.choose_spec ⟨_, rfl⟩)) pa_nil))))) pss_nil)
      (pss_cons (ps_if (pt_cmpR op_eq (pv 1) (pe_glob (v := .str _) (by rfl) T.c_BESIDE.choose_spec ⟨_, rfl⟩) (nomark _)) (pss_one (ps_ret (pe_and (pe_call (ok_is_number T) (hr.mono (by decide)) (by rfl) T.g_is_number T.f_is_number.kp T.p_is_number .nil pass0 (pa_cons (pe_ix ix_list (pv 2) pe_int (fun _ _ => rfl)) (pa_cons pe_int (pa_cons pe_int pa_nil)))) (pe_one (pe_call (ok_are_signs T) (hr.mono (by decide)) (by rfl) T.g_are_signs T.f_are_signs.kp T.p_are_signs .nil pass0 (pa_cons (pe_ix ix_list (pv 2) pe_int (fun _ _ => rfl)) (pa_cons (pe_op op_add_str (pe_op op_add_str (pe_glob (v := .str _) (by rfl) T.c_LAND.choose_spec ⟨_, rfl⟩) (pe_glob (v := .str _) (by rfl) T.c_LETTERS.choose_spec ⟨_, rfl⟩)) (pe_glob (v := .str _) (by rfl) T.c_WATER.choose_spec ⟨_, rfl⟩)) pa_nil))))))) pss_nil)
      (pss_cons (ps_if (pt_cmpR op_eq (pv 1) (pe_glob (v := .str _) (by rfl) T.c_NEAR.choose_spec ⟨_, rfl⟩) (nomark _)) (pss_one (ps_ret (pe_and (pe_call (ok_are_signs T) (hr.mono (by decide)) (by rfl) T.g_are_signs T.f_are_signs.kp T.p_are_signs .nil pass0 (pa_cons (pe_ix ix_list (pv 2) pe_int (fun _ _ => rfl)) (pa_cons (pe_op op_add_str (pe_op op_add_str (pe_glob (v := .str _) (by rfl) T.c_LAND.choose_spec ⟨_, rfl⟩) (pe_glob (v := .str _) (by rfl) T.c_LETTERS.choose_spec ⟨_, rfl⟩)) (pe_glob (v := .str _) (by rfl) T.c_WATER.choose_spec ⟨_, rfl⟩)) pa_nil))) (pe_one (pe_call (ok_is_number T) (hr.mono (by decide)) (by rfl) T.g_is_number T.f_is_number.kp T.p_is_number .nil pass0 (pa_cons (pe_ix ix_list (pv 2) pe_int (fun _ _ => rfl)) (pa_cons pe_int (pa_cons (pe_glob (v := .int _) (by rfl) T.c_MAX_FAR.choose_spec ⟨_, rfl⟩) pa_nil)))))))) pss_nil)
      (pss_one (ps_ret (pe_and (pe_cmpR op_in_seq (pe_ix ix_list (pv 2) pe_int (fun _ _ => rfl)) (pe_tup (pa_cons (pe_glob (v := .int _) (by rfl) T.c_RIGHT.choose_spec ⟨_, rfl⟩) (pa_cons (pe_glob (v := .int _) (by rfl) T.c_LEFT.choose_spec ⟨_, rfl⟩) pa_nil))) (by rfl)) (pe_and (pe_not (pe_callB call_isi (by rfl) T.b_isinstance boot_isinstance (pa_cons (pe_ix ix_list (pv 2) pe_int (fun _ _ => rfl)) (pa_cons (pe_bltn (v := .ty "bool") (by rfl) T.b_bool boot_bool rfl) pa_nil)))) (pe_one (pe_call (ok_is_range T) (hr.mono (by decide)) (by rfl) T.g_is_range T.f_is_range.kp T.p_is_range .nil pass0 (pa_cons (pe_ix ix_list (pv 2) pe_int (fun _ _ => rfl)) (pa_cons (pe_ix ix_list (pv 2) pe_int (fun _ _ => rfl)) pa_nil)))))))))))))), ?_⟩
    -- the parts
    have seen : ∀ (x : V) (r : List V), xs = x :: r → r.length ≤ 900 → ∀ (D : Addr), H D = none → True := fun _ _ _ _ _ _ => trivial
    cases wf with
    | turn ts hn h0 hl =>
      cases hd with
      | cons d1 hd =>
      cases hd with
      | cons d2 hd =>
      cases hd
      cases d1
      cases d2 with
      | tup hb hy =>
      rename_i b ys
      have ey := dps_int_eq hy
      subst ey
      refine ⟨_, rfl, a, _, _, rfl, ha, by simp, fun D hD => ⟨_, _, rfl, _, _, rfl, rfl, ?_⟩⟩
      refine ⟨_, rfl, rfl, _, rfl, ?_⟩
      refine ifB (fun _ => ?_) (fun e => absurd e (by decide +kernel))
      have xD := ex_new (o := .lst [V.ref b]) hD
      refine ⟨_, rfl, _, _, _, _, rfl, rfl, .of upd_same, rfl, b, ts, rfl, Evl.ex_t xD hb, hl, fun r H1 er x1 => k _ _ ?_ (xD.trans x1)⟩
      rw [er]
      show _ = (risingI (intsOf (ts.map PyData.int)) && (intsOf (ts.map PyData.int)).all fun t => decide (t ≤ 3))
      have ei : ∀ l : List Int, intsOf (l.map PyData.int) = l := fun l => by
        induction l with
        | nil => rfl
        | cons a r ih =>
          show a :: intsOf (r.map PyData.int) = _
          rw [ih]
      rw [ei]
      have en : ts.isEmpty = false := by
        cases ts with
        | nil => exact absurd rfl hn
        | cons _ _ => rfl
      have ea : (ts.all fun t => decide (0 ≤ t) && decide (t ≤ 3)) = ts.all fun t => decide (t ≤ 3) := by
        apply Bool.eq_iff_iff.mpr
        rw [List.all_eq_true, List.all_eq_true]
        constructor
        · intro h t ht
          exact (ba (h t ht)).2
        · intro h t ht
          rw [decide_eq_true (h0 t ht), h t ht]
          rfl
      rw [en, ea, Bool.and_comm]
      rfl
    | walk p q hp0 hq0 =>
      cases hd with
      | cons d1 hd =>
      cases hd with
      | cons d2 hd =>
      cases hd with
      | cons d3 hd =>
      cases hd
      cases d1
      cases d2
      cases d3
      refine ⟨_, rfl, a, _, _, rfl, ha, by simp, fun D hD => ⟨_, _, rfl, _, _, rfl, rfl, ?_⟩⟩
      refine ⟨_, rfl, rfl, _, rfl, ?_⟩
      refine ifB (fun e => absurd e (by decide +kernel)) (fun _ => ?_)
      refine ⟨_, rfl, rfl, _, rfl, ?_⟩
      refine ifB (fun _ => ?_) (fun e => absurd e (by decide +kernel))
      have xD := ex_new (o := .lst [V.int p, V.int q]) hD
      refine ⟨_, rfl, _, _, _, _, rfl, rfl, .of upd_same, rfl, _, rfl, _, _, _, _, rfl, rfl, .of upd_same, rfl, p, q, rfl, fun r H1 er x1 => k _ _ ?_ (xD.trans x1)⟩
      rw [er]
      show _ = (decide (p ≤ q) && decide (q ≤ 20))
      rw [decide_eq_true hp0, Bool.true_and]
      by_cases c1 : p ≤ q
      · by_cases c2 : q ≤ 20
        · rw [decide_eq_true c1, decide_eq_true c2, decide_eq_true (Int.le_trans c1 c2)]
          rfl
        · rw [decide_eq_false c2]
          simp
      · rw [decide_eq_false c1]
        simp
    | untl z hz hl ok =>
      cases hd with
      | cons d1 hd =>
      cases hd with
      | cons d2 hd =>
      cases hd
      cases d1
      cases d2
      refine ⟨_, rfl, a, _, _, rfl, ha, by simp, fun D hD => ⟨_, _, rfl, _, _, rfl, rfl, ?_⟩⟩
      refine ⟨_, rfl, rfl, _, rfl, ?_⟩
      refine ifB (fun e => absurd e (by decide +kernel)) (fun _ => ?_)
      refine ⟨_, rfl, rfl, _, rfl, ?_⟩
      refine ifB (fun e => absurd e (by decide +kernel)) (fun _ => ?_)
      refine ⟨_, rfl, by decide, fun p hp => ⟨p, _, rfl, .inr (.of upd_same), rfl, rfl, _, rfl, ?_⟩⟩
      refine ifB (fun _ => ?_) (fun e => absurd e (by decide +kernel))
      have xD := ex_new (o := .lst [V.str z]) hD
      have xp := ex_new (o := .tup [V.str "until", V.str "toward"]) hp
      refine ⟨_, rfl, _, _, _, _, rfl, rfl, .of (xp _ _ upd_same), rfl, _, _, rfl, rfl, by decide +kernel, z, _, rfl, ok, hl, fun r H1 er x1 => k _ _ ?_ ((xD.trans xp).trans x1)⟩
      rw [er, e_knS]
      exact hz
    | towd z hz hl ok =>
      cases hd with
      | cons d1 hd =>
      cases hd with
      | cons d2 hd =>
      cases hd
      cases d1
      cases d2
      refine ⟨_, rfl, a, _, _, rfl, ha, by simp, fun D hD => ⟨_, _, rfl, _, _, rfl, rfl, ?_⟩⟩
      refine ⟨_, rfl, rfl, _, rfl, ?_⟩
      refine ifB (fun e => absurd e (by decide +kernel)) (fun _ => ?_)
      refine ⟨_, rfl, rfl, _, rfl, ?_⟩
      refine ifB (fun e => absurd e (by decide +kernel)) (fun _ => ?_)
      refine ⟨_, rfl, by decide, fun p hp => ⟨p, _, rfl, .inr (.of upd_same), rfl, rfl, _, rfl, ?_⟩⟩
      refine ifB (fun _ => ?_) (fun e => absurd e (by decide +kernel))
      have xD := ex_new (o := .lst [V.str z]) hD
      have xp := ex_new (o := .tup [V.str "until", V.str "toward"]) hp
      refine ⟨_, rfl, _, _, _, _, rfl, rfl, .of (xp _ _ upd_same), rfl, _, _, rfl, rfl, by decide +kernel, z, _, rfl, ok, hl, fun r H1 er x1 => k _ _ ?_ ((xD.trans xp).trans x1)⟩
      rw [er, e_knS]
      exact hz
    | besd t z h0 hz hl ok =>
      cases hd with
      | cons d1 hd =>
      cases hd with
      | cons d2 hd =>
      cases hd with
      | cons d3 hd =>
      cases hd
      cases d1
      cases d2
      cases d3
      refine ⟨_, rfl, a, _, _, rfl, ha, by simp, fun D hD => ⟨_, _, rfl, _, _, rfl, rfl, ?_⟩⟩
      refine ⟨_, rfl, rfl, _, rfl, ?_⟩
      refine ifB (fun e => absurd e (by decide +kernel)) (fun _ => ?_)
      refine ⟨_, rfl, rfl, _, rfl, ?_⟩
      refine ifB (fun e => absurd e (by decide +kernel)) (fun _ => ?_)
      refine ⟨_, rfl, by decide, fun p hp => ⟨p, _, rfl, .inr (.of upd_same), rfl, rfl, _, rfl, ?_⟩⟩
      refine ifB (fun e => absurd e (by decide +kernel)) (fun _ => ?_)
      refine ⟨_, rfl, rfl, _, rfl, ?_⟩
      refine ifB (fun _ => ?_) (fun e => absurd e (by decide +kernel))
      have xD := ex_new (o := .lst [V.int t, V.str z]) hD
      have xp := ex_new (o := .tup [V.str "until", V.str "toward"]) hp
      refine ⟨_, rfl, _, _, _, _, rfl, rfl, .of (xp _ _ upd_same), rfl, t, 0, 3, rfl, _, rfl, ?_⟩
      have eg : goodIns [PyData.str "beside", PyData.int t, PyData.str z] = decide (t ≤ 3) := rfl
      rw [eg] at k
      rw [decide_eq_true h0, Bool.true_and]
      refine ifB (fun e2 => ?_) (fun e2 => k _ _ e2.symm (xD.trans xp))
      refine ⟨_, rfl, _, _, _, _, rfl, rfl, .of (xp _ _ upd_same), rfl, _, _, rfl, rfl, by decide +kernel, _, _, rfl, rfl, by decide +kernel, z, _, rfl, ok, hl, fun r H1 er x1 => k _ _ ?_ ((xD.trans xp).trans x1)⟩
      rw [er, e2, e_knA]
      exact hz
    | near z m h0 hz hl ok =>
      cases hd with
      | cons d1 hd =>
      cases hd with
      | cons d2 hd =>
      cases hd with
      | cons d3 hd =>
      cases hd
      cases d1
      cases d2
      cases d3
      refine ⟨_, rfl, a, _, _, rfl, ha, by simp, fun D hD => ⟨_, _, rfl, _, _, rfl, rfl, ?_⟩⟩
      refine ⟨_, rfl, rfl, _, rfl, ?_⟩
      refine ifB (fun e => absurd e (by decide +kernel)) (fun _ => ?_)
      refine ⟨_, rfl, rfl, _, rfl, ?_⟩
      refine ifB (fun e => absurd e (by decide +kernel)) (fun _ => ?_)
      refine ⟨_, rfl, by decide, fun p hp => ⟨p, _, rfl, .inr (.of upd_same), rfl, rfl, _, rfl, ?_⟩⟩
      refine ifB (fun e => absurd e (by decide +kernel)) (fun _ => ?_)
      refine ⟨_, rfl, rfl, _, rfl, ?_⟩
      refine ifB (fun e => absurd e (by decide +kernel)) (fun _ => ?_)
      refine ⟨_, rfl, rfl, _, rfl, ?_⟩
      refine ifB (fun _ => ?_) (fun e => absurd e (by decide +kernel))
      have xD := ex_new (o := .lst [V.str z, V.int m]) hD
      have xp := ex_new (o := .tup [V.str "until", V.str "toward"]) hp
      refine ⟨_, rfl, _, _, _, _, rfl, rfl, .of (xp _ _ upd_same), rfl, _, _, rfl, rfl, by decide +kernel, _, _, rfl, rfl, by decide +kernel, z, _, rfl, ok, hl, fun r H1 er x1 => ⟨_, rfl, ?_⟩⟩
      rw [er, e_knA, hz]
      refine iteT ?_
      refine ⟨_, rfl, _, _, _, _, rfl, rfl, .of (x1 _ _ (xp _ _ upd_same)), rfl, m, 0, 22, rfl, k _ _ ?_ ((xD.trans xp).trans x1)⟩
      rw [decide_eq_true h0]
      rfl
    | shor s p' q h0 hp0 hq0 =>
      cases hd with
      | cons d1 hd =>
      cases hd with
      | cons d2 hd =>
      cases hd with
      | cons d3 hd =>
      cases hd with
      | cons d4 hd =>
      cases hd
      cases d1
      cases d2
      cases d3
      cases d4
      refine ⟨_, rfl, a, _, _, rfl, ha, by simp, fun D hD => ⟨_, _, rfl, _, _, rfl, rfl, ?_⟩⟩
      refine ⟨_, rfl, rfl, _, rfl, ?_⟩
      refine ifB (fun e => absurd e (by decide +kernel)) (fun _ => ?_)
      refine ⟨_, rfl, rfl, _, rfl, ?_⟩
      refine ifB (fun e => absurd e (by decide +kernel)) (fun _ => ?_)
      refine ⟨_, rfl, by decide, fun p hp => ⟨p, _, rfl, .inr (.of upd_same), rfl, rfl, _, rfl, ?_⟩⟩
      refine ifB (fun e => absurd e (by decide +kernel)) (fun _ => ?_)
      refine ⟨_, rfl, rfl, _, rfl, ?_⟩
      refine ifB (fun e => absurd e (by decide +kernel)) (fun _ => ?_)
      refine ⟨_, rfl, rfl, _, rfl, ?_⟩
      refine ifB (fun e => absurd e (by decide +kernel)) (fun _ => ?_)
      have xD := ex_new (o := .lst [V.int s, V.int p', V.int q]) hD
      have xp := ex_new (o := .tup [V.str "until", V.str "toward"]) hp
      refine ⟨_, rfl, _, _, _, _, rfl, rfl, .of (xp _ _ upd_same), rfl, by decide, fun q0 hq => ⟨q0, _, rfl, .inr (.of upd_same), rfl, rfl, _, rfl, ?_⟩⟩
      have xq := ex_new (o := .tup [V.int 1, V.int 3]) hq
      have eg : goodIns [PyData.str "shore", PyData.int s, PyData.int p', PyData.int q] = ((decide (s = 1) || decide (s = 3)) && (decide (p' ≤ q) && decide (q ≤ 20))) := rfl
      rw [eg] at k
      have ei : inV (V.int s) [V.int 1, V.int 3] = (decide (s = 1) || decide (s = 3)) := by
        unfold inV
        simp only [List.any_cons, List.any_nil, Bool.or_false]
        have e1 : ∀ c : Int, eqV (V.int c) (V.int s) = decide (s = c) := fun c => by
          show (c == s) = decide (s = c)
          rw [Bool.eq_iff_iff, beq_iff_eq, decide_eq_true_iff]
          exact eq_comm
        rw [e1, e1]
      show if inV (V.int s) [V.int 1, V.int 3] = true then _ else _
      rw [ei]
      refine ifB (fun e2 => ?_) (fun e2 => k _ _ (by rw [e2]; rfl) ((xD.trans xp).trans xq))
      refine ⟨_, rfl, _, _, _, _, rfl, rfl, .of (xq _ _ (xp _ _ upd_same)), rfl, _, _, _, _, _, rfl, .ty "bool", .base (.int _), kit_ty (by decide +kernel), false, rfl, true, rfl, iteT ?_⟩
      refine ⟨_, rfl, _, _, _, _, rfl, rfl, .of (xq _ _ (xp _ _ upd_same)), rfl, _, rfl, _, _, _, _, rfl, rfl, .of (xq _ _ (xp _ _ upd_same)), rfl, p', q, rfl, fun r H1 er x1 => k _ _ ?_ (((xD.trans xp).trans xq).trans x1)⟩
      rw [er, e2, Bool.true_and, decide_eq_true hp0, Bool.true_and]
      by_cases c1 : p' ≤ q
      · by_cases c2 : q ≤ 20
        · rw [decide_eq_true c1, decide_eq_true c2, decide_eq_true (Int.le_trans c1 c2)]
          rfl
        · rw [decide_eq_false c2]
          simp
      · rw [decide_eq_false c1]
        simp
end
end Om
end PartA4
section PartA5
set_option Elab.async false
set_option linter.all false
set_option maxRecDepth 100000
set_option maxHeartbeats 400000
namespace Om
open PySem PySem.Spec PyProof.Rows L2 He TL
section
variable {w : World} {K : Frg} {mg : Str → Option Value} {base : Heap}
/-- Line.fail -/
def sp_Line_fail (K : Frg) : Sp := fun vs H _ E => ∃ (a : Addr) (n k : Int) (ws : List Str), vs = [.ref a] ∧ LnW K H a n ws k ∧ Fails K [] H n k E
theorem sc_Line_fail : FnScope ["self"] ["self"] (defScope s_Line_fail) := ⟨rfl, rfl, rfl, by decide +kernel, rfl, by decide +kernel, by decide +kernel⟩
theorem ok_Line_fail (T : Tx w K mg) : FnOk prg w K mg base (L2.CX prg w) 4 (ma K (ga K "Line") "fail") (fdOf K (ma K (ga K "Line") "fail")) ["self"] (sp_Line_fail K) := by
  refine T.f_Line_fail.ok sc_Line_fail (fun vs H Q E h => ?_) (fun cdv A outer s H vs Q E hr h => ?_)
  · obtain ⟨a, n, k, ws, rfl, _⟩ := h
    rfl
  · obtain ⟨a, n, k, ws, rfl, hl, hf⟩ := h
    refine ⟨_, (pss_one (ps_raise rfl (takes_of rfl rfl rfl rfl) (pmk_IT (k := 2) rfl T.xIT T.x_InvalidText_no_row T.x_InvalidText_no_word T.x_InvalidText_ty T.kp_InvalidText (hr.mono (by decide)) (by rfl) T.g_InvalidText (pk_cons (SlX.pe_sl (pv 0) (by rfl)) (pk_cons (SlX.pe_sl (pv 0) (by rfl)) pk_nil))))), ?_⟩
    obtain ⟨dx, wa, hdx, hwa, hwd, hs, hw⟩ := hl.slt
    refine ⟨_, rfl, a, _, dx, _, _, 1, _, rfl, hs, T.ln, T.s_number, rfl, _, rfl, a, _, dx, _, _, 0, _, rfl, hs, T.ln, T.s_at, rfl, rfl, fun d hd => hf d _ (.new hd) upd_same⟩
/-- Line.is_over -/
def sp_Line_is_over (K : Frg) : Sp := fun vs H Q _ => ∃ (a : Addr) (n k : Int) (ws : List Str), vs = [.ref a] ∧ LnW K H a n ws k ∧ Q (.bl (decide ((ws.length : Int) ≤ k))) H
theorem sc_Line_is_over : FnScope ["self"] ["self"] (defScope s_Line_is_over) := ⟨rfl, rfl, rfl, by decide +kernel, rfl, by decide +kernel, by decide +kernel⟩
theorem ok_Line_is_over (T : Tx w K mg) : FnOk prg w K mg base CX0 1 (ma K (ga K "Line") "is_over") (fdOf K (ma K (ga K "Line") "is_over")) ["self"] (sp_Line_is_over K) := by
  refine T.f_Line_is_over.ok sc_Line_is_over (fun vs H Q E h => ?_) (fun cdv A outer s H vs Q E hr h => ?_)
  · obtain ⟨a, n, k, ws, rfl, _⟩ := h
    rfl
  · obtain ⟨a, n, k, ws, rfl, hl, q⟩ := h
    refine ⟨_, PSs.nox (pss_one (ps_ret (pe_cmpR op_ge (SlX.pe_sl (pv 0) (by rfl)) (pe_callB call_len_seq (by rfl) T.b_len PySem.boot_len (pa_cons (SlX.pe_sl (pv 0) (by rfl)) pa_nil)) (nomark _)))), ?_⟩
    obtain ⟨dx, wa, hdx, hwa, hwd, hs, hw⟩ := hl.slt
    refine ⟨_, rfl, a, _, dx, _, _, 0, _, rfl, hs, T.ln, T.s_at, rfl, _, rfl, a, _, dx, _, _, 2, _, rfl, hs, T.ln, T.s_words, rfl, wa, _, rfl, .inl (.of hw), _, _, rfl, rfl, ?_⟩
    rw [List.length_map]
    exact q
/-- Line.take -/
def sp_Line_take (K : Frg) : Sp := fun vs H Q E => ∃ (a : Addr) (n : Int) (k : Nat) (ws : List Str) (dx wa : Addr), vs = [.ref a] ∧ LnX K H a n ws k dx wa ∧ (∀ z, ws[k]? = some z → ∀ H', Ky [a] H H' → LnX K H' a n ws (k + 1 : Nat) dx wa → Q (.str z) H') ∧
  (ws.length ≤ k → Fails K [] H n k E)
theorem sc_Line_take : FnScope ["self"] ["self"] (defScope s_Line_take) := ⟨rfl, rfl, rfl, by decide +kernel, rfl, by decide +kernel, by decide +kernel⟩
theorem ok_Line_take (T : Tx w K mg) : FnOk prg w K mg base (L2.CX prg w) 5 (ma K (ga K "Line") "take") (fdOf K (ma K (ga K "Line") "take")) ["self"] (sp_Line_take K) := by
  refine T.f_Line_take.ok sc_Line_take (fun vs H Q E h => ?_) (fun cdv A outer s H vs Q E hr h => ?_)
  · obtain ⟨a, n, k, ws, dx, wa, rfl, _⟩ := h
    rfl
  · obtain ⟨a, n, k, ws, dx, wa, rfl, hl, q, f⟩ := h
    refine ⟨_, (pss_cons (ps_if (pt_val (SlX.pe_methSl0 (pv 0) T.ln T.m_Line_is_over ((ok_Line_is_over T).raw T.p_Line_is_over .nil) (hr.mono (by decide)) pass0)) (pss_one (ps_expr (SlX.pe_methSl0 (pv 0) T.ln T.m_Line_fail ((ok_Line_fail T).raw T.p_Line_fail .nil) (hr.mono (by decide)) (passes_call (takes_of rfl rfl rfl rfl) fun _ _ _ _ z => z)))) pss_nil)
      (pss_cons (ps_slaug (pv 0) pe_int in_add)
      (pss_one (ps_ret (pe_ix ix_list (SlX.pe_sl (pv 0) (by rfl)) (pe_op op_sub (SlX.pe_sl (pv 0) (by rfl)) pe_int) (fun _ _ => rfl)))))), ?_⟩
    obtain ⟨hdx, hwa, hwd, hs, hw⟩ := hl.slt
    refine ⟨_, rfl, a, dx, _, rfl, hs, a, n, k, ws, rfl, hl.w, _, rfl, ?_⟩
    refine ifB (fun e => ?_) (fun e => ?_)
    · refine ⟨_, rfl, a, dx, _, rfl, hs, a, n, k, ws, rfl, hl.w, f (by exact_mod_cast of_decide_eq_true e)⟩
    · have e' : k < ws.length := by
        have := of_decide_eq_false e
        omega
      obtain ⟨hl2, k2⟩ := LnW.put (j := ((k : Int) + 1)) hs hdx hw hwa hwd
      obtain ⟨hdx2, hwa2, hwd2, hs2, hw2⟩ := hl2.slt
      have hz : ws[k]? = some ws[k] := List.getElem?_eq_getElem e'
      refine ⟨_, rfl, a, _, dx, _, _, 0, _, rfl, hs, T.ln, T.s_at, rfl, _, _, rfl, rfl, _, hs, _, rfl, a, _, dx, _, _, 2, _, rfl, hs2, T.ln, T.s_words, rfl, _, rfl, a, _, dx, _, _, 0, _, rfl, hs2, T.ln, T.s_at, rfl, _, _, rfl, rfl, wa, _, _, .str ws[k], rfl, rfl, .of hw2, ?_, q _ hz _ k2 hl2⟩
      have ek : (k : Int) + 1 - 1 = (k : Int) := by omega
      rw [ek]
      exact atI_nat (by rw [List.getElem?_map, hz]; rfl)
/-- Line.end -/
def sp_Line_end (K : Frg) : Sp := fun vs H Q E => ∃ (a : Addr) (n : Int) (k : Nat) (ws : List Str), vs = [.ref a] ∧ LnW K H a n ws k ∧ (ws.length ≤ k → Q .non H) ∧ (k < ws.length → Fails K [] H n k E)
theorem sc_Line_end : FnScope ["self"] ["self"] (defScope s_Line_end) := ⟨rfl, rfl, rfl, by decide +kernel, rfl, by decide +kernel, by decide +kernel⟩
theorem ok_Line_end (T : Tx w K mg) : FnOk prg w K mg base (L2.CX prg w) 5 (ma K (ga K "Line") "end") (fdOf K (ma K (ga K "Line") "end")) ["self"] (sp_Line_end K) := by
  refine T.f_Line_end.ok sc_Line_end (fun vs H Q E h => ?_) (fun cdv A outer s H vs Q E hr h => ?_)
  · obtain ⟨a, n, k, ws, rfl, _⟩ := h
    rfl
  · obtain ⟨a, n, k, ws, rfl, hl, q, f⟩ := h
    refine ⟨_, (pss_one (ps_if (pt_not (pt_val (SlX.pe_methSl0 (pv 0) T.ln T.m_Line_is_over ((ok_Line_is_over T).raw T.p_Line_is_over .nil) (hr.mono (by decide)) pass0))) (pss_one (ps_expr (SlX.pe_methSl0 (pv 0) T.ln T.m_Line_fail ((ok_Line_fail T).raw T.p_Line_fail .nil) (hr.mono (by decide)) (passes_call (takes_of rfl rfl rfl rfl) fun _ _ _ _ z => z)))) pss_nil)), ?_⟩
    obtain ⟨dx, wa, hdx, hwa, hwd, hs, hw⟩ := hl.slt
    refine ⟨_, rfl, a, dx, _, rfl, hs, a, n, k, ws, rfl, hl, _, rfl, ?_⟩
    refine ifB (fun e => ?_) (fun e => ?_)
    · refine ⟨_, rfl, a, dx, _, rfl, hs, a, n, k, ws, rfl, hl, f ?_⟩
      have e2 : decide ((ws.length : Int) ≤ k) = false := by simpa using e
      have := of_decide_eq_false e2
      omega
    · refine q ?_
      have e2 : decide ((ws.length : Int) ≤ k) = true := by simpa using e
      have := of_decide_eq_true e2
      omega
/-- is_number_word -/
def sp_is_number_word : Sp := fun vs H Q _ => ∃ z : Str, vs = [.str z] ∧ PyData.strOk z = true ∧ z.cps.size ≤ 1000 ∧ ∀ b H', b = isNum z → Ex H H' → Q (.bl b) H'
theorem sc_is_number_word : FnScope ["word", "sign"] ["word"] (defScope s_is_number_word) := ⟨rfl, rfl, rfl, by decide +kernel, rfl, by decide +kernel, by decide +kernel⟩
theorem ok_is_number_word (T : Tx w K mg) : FnOk prg w K mg base CX0 1 (ga K "is_number_word") (fdOf K (ga K "is_number_word")) ["word"] sp_is_number_word := by
  refine T.f_is_number_word.ok sc_is_number_word (fun vs H Q E h => ?_) (fun cdv A outer s H vs Q E hr h => ?_)
  · obtain ⟨z, rfl, _⟩ := h
    rfl
  · obtain ⟨z, rfl, ok, hz, k⟩ := h
    refine ⟨_, PSs.nox (pss_cons (ps_if (PW.pt (pw_or (pt_not (pt_chain op_le op_le pe_int (pe_callB call_len_str (by rfl) T.b_len PySem.boot_len (pa_cons (pv 0) pa_nil)) pe_int)) (pw_or1 (pt_cmpR (op_neD hr.units) (pe_lc (own := [("sign", 1)]) (g := gName 1) rfl sc_is_number_word.nd (pi_str (pv 0)) (blkOk_by (own := [("sign", 1)]) (N := ["word", "sign"]) (sc := defScope s_is_number_word) (by decide +kernel)) (fun _ _ _ _ _ => pg_name (i := 1) sc_is_number_word.nd rfl (Or.inl rfl)) (fun _ _ _ _ _ => pts_one (pt_cmpR op_notIn_sign (pv 1) (pe_glob (v := .str _) (by rfl) T.c_DIGITS.choose_spec ⟨_, rfl⟩) (by rfl))) (fun _ _ _ _ _ => (pv 1))) (pe_lst pa_nil) (nomark _))))) (pss_one (ps_ret pe_bl)) pss_nil)
      (pss_one (ps_ret (pe_or (pe_cmpR op_eq (pv 0) pe_str (nomark _)) (pe_one (pe_cmpR op_ne (pe_ix ix_str (pv 0) pe_int (fun _ _ => rfl)) pe_str (nomark _))))))), ?_⟩
    have hz' : z.length ≤ sizeLine := Evl.sz_of (show z.length ≤ 100000 from Nat.le_trans (show z.cps.size ≤ 1000 from hz) (by decide))
    have hl : (z.length : Int) = ((tl z).length : Int) := by rw [len_tl]
    have last : ∀ H1, Ex H H1 → (1 ≤ (tl z).length ∧ (tl z).length ≤ 2) → (tl z).all isDig = true → tRet
      (tOrV (tOp rEq (tVar 0) (tC (V.str (Str.ofString "0"))))
        (tOp rNe (tOp rIxS (tVar 0) (tC (V.int 0))) (tC (V.str (Str.ofString "0"))))) { nx := fun x H' => Q V.non H', rt := Q } (L2.start [Str.ofString "word", Str.ofString "sign"] [V.str z]) H1 := by
      intro H1 x1 ⟨h1, h2⟩ h3
      refine ⟨_, rfl, rfl, _, rfl, ?_⟩
      have e0 : tl (Str.ofString "0") = [48] := by decide +kernel
      rw [vstr_eq, e0]
      have en : isNum z = (decide (tl z = [48]) || decide ((tl z).head? ≠ some 48)) := by
        unfold isNum
        rw [decide_eq_true h1, decide_eq_true h2, h3]
        rfl
      refine ifB (fun e => k _ _ (by rw [en, e]; rfl) x1) (fun e => ?_)
      obtain ⟨c, r, hc⟩ : ∃ c r, tl z = c :: r := by
        cases q : tl z with
        | nil => rw [q] at h1; exact absurd h1 (by decide)
        | cons c r => exact ⟨c, r, rfl⟩
      refine ⟨_, rfl, z, 0, c, rfl, rfl, hz', ?_, rfl, k _ _ ?_ x1⟩
      · exact atI_nat (j := 0) (by show (tl z)[0]? = some c; rw [hc]; rfl)
      · rw [vstr_eq, e0, en, e, hc]
        show (!decide ([c] = [48])) = (false || decide ((c :: r).head? ≠ some 48))
        by_cases q : c = 48
        · subst q
          rfl
        · have a : ¬ [c] = [48] := fun h => q (by simpa using h)
          have b : (c :: r).head? ≠ some 48 := fun h => q (by simpa using h)
          rw [decide_eq_false a, decide_eq_true b]
          rfl
    have bad : ∀ H1, Ex H H1 → (1 ≤ (tl z).length ∧ (tl z).length ≤ 2 → (tl z).all isDig = false) → Q (.bl false) H1 := fun H1 x1 h => by
      refine k _ _ ?_ x1
      unfold isNum
      by_cases h1 : 1 ≤ (tl z).length
      · by_cases h2 : (tl z).length ≤ 2
        · rw [h ⟨h1, h2⟩]
          simp
        · rw [decide_eq_false h2]
          simp
      · rw [decide_eq_false h1]
        simp
    refine ⟨_, rfl, z, rfl, hz', _, _, rfl, rfl, _, rfl, ?_⟩
    have dig : ∀ H1, Ex H H1 → (1 ≤ (tl z).length ∧ (tl z).length ≤ 2) → tTest
          (tOp
            (rNeD K)
            (tLc (iStr (tVar 0)) (gName 1)
              (tTest
                (tOp
                  (fun x y H Q =>
                    ∃ c z, x = V.str { cps := #[c] } ∧ y = V.str z ∧ Q (V.bl !decide (c ∈ z.cps.toList)) H)
                  (tVar 1) (tC (V.str (Str.ofString "0123456789")))))
              (tVar 1) (List.map (fun x => x.snd) [(Str.ofString "sign", 1)]))
            (tLst tNil)) (L2.start [Str.ofString "word", Str.ofString "sign"] [V.str z]) H1 (fun b H2 => if b = true then Q (.bl false) H2 else tRet
      (tOrV (tOp rEq (tVar 0) (tC (V.str (Str.ofString "0"))))
        (tOp rNe (tOp rIxS (tVar 0) (tC (V.int 0))) (tC (V.str (Str.ofString "0"))))) { nx := fun x H' => Q V.non H', rt := Q } (L2.start [Str.ofString "word", Str.ofString "sign"] [V.str z]) H2) := by
      intro H1 x1 hb
      refine ⟨_, rfl, z, rfl, fun D hD => lcS (K := K) (fun c => !decide (c ∈ tl (Str.ofString "0123456789"))) hD ok (by omega) (fun _ => rfl) rfl (fun c H2 Pt hc x2 hp => ⟨_, rfl, c, _, rfl, rfl, _, rfl, hp⟩) ?_⟩
      intro H2 x2 hn
      refine ⟨by decide, fun p hp => nil_ne (hn.ex (ex_new hp)) upd_same ⟨_, rfl, ?_⟩⟩
      rw [filter_none]
      have ed : ((tl z).all fun c => !(!decide (c ∈ tl (Str.ofString "0123456789")))) = (tl z).all isDig := by
        congr 1
        funext c
        rw [Bool.not_not, dig_mem]
      rw [ed]
      have x3 := (x1.trans x2).trans (ex_new (o := .lst []) hp)
      refine ifB (fun e => bad _ x3 fun _ => by simpa using e) (fun e => last _ x3 hb (by simpa using e))
    refine ifB (fun e1 => ?_) (fun e1 => ?_)
    · refine ⟨_, _, rfl, rfl, _, rfl, ?_⟩
      refine ifB (fun e2 => ?_) (fun e2 => ?_)
      · refine bad _ (Evl.Ex.refl H) (fun h => ?_)
        have e3 : decide ((z.length : Int) ≤ 2) = false := by simpa using e2
        have := of_decide_eq_false e3
        omega
      · have e3 : decide ((z.length : Int) ≤ 2) = true := by simpa using e2
        have h1 := of_decide_eq_true e1
        have h2 := of_decide_eq_true e3
        exact dig H (Evl.Ex.refl H) (by omega)
    · refine ⟨_, rfl, ?_⟩
      refine iteT ?_
      refine bad _ (Evl.Ex.refl H) (fun h => ?_)
      have := of_decide_eq_false e1
      omega
/-- is_sign_word -/
def sp_is_sign_word : Sp := fun vs H Q _ => ∃ (z y : Str), vs = [.str z, .str y] ∧ PyData.strOk z = true ∧ z.cps.size ≤ 1000 ∧ ∀ b H', b = isSig (tl y) z → Ex H H' → Q (.bl b) H'
theorem sc_is_sign_word : FnScope ["word", "known", "sign"] ["word", "known"] (defScope s_is_sign_word) := ⟨rfl, rfl, rfl, by decide +kernel, rfl, by decide +kernel, by decide +kernel⟩
theorem ok_is_sign_word (T : Tx w K mg) : FnOk prg w K mg base CX0 2 (ga K "is_sign_word") (fdOf K (ga K "is_sign_word")) ["word", "known"] sp_is_sign_word := by
  refine T.f_is_sign_word.ok sc_is_sign_word (fun vs H Q E h => ?_) (fun cdv A outer s H vs Q E hr h => ?_)
  · obtain ⟨z, y, rfl, _⟩ := h
    rfl
  · obtain ⟨z, y, rfl, ok, hz, k⟩ := h
    refine ⟨_, PSs.nox (pss_one (ps_ret (pe_and (pe_cmpR op_ne (pv 0) pe_str (nomark _)) (pe_and (pe_call (ok_is_rising T) (hr.mono (by decide)) (by rfl) T.g_is_rising T.f_is_rising.kp T.p_is_rising .nil pass0 (pa_cons (pv 0) pa_nil)) (pe_one (pe_cmpR (op_eqD hr.units) (pe_lc (own := [("sign", 2)]) (g := gName 2) rfl sc_is_sign_word.nd (pi_str (pv 0)) (blkOk_by (own := [("sign", 2)]) (N := ["word", "known", "sign"]) (sc := defScope s_is_sign_word) (by decide +kernel)) (fun _ _ _ _ _ => pg_name (i := 2) sc_is_sign_word.nd rfl (Or.inl rfl)) (fun _ _ _ _ _ => pts_one (pt_cmpR op_notIn_sign (pv 2) (pv 1) (by rfl))) (fun _ _ _ _ _ => (pv 2))) (pe_lst pa_nil) (nomark _))))))), ?_⟩
    refine ⟨_, rfl, rfl, _, rfl, ?_⟩
    have ez : (!decide (V.str z = V.str (Str.ofString ""))) = decide (tl z ≠ []) := by
      rw [vstr_eq, show tl (Str.ofString "") = [] by decide +kernel]
      simp
    rw [ez]
    refine ifB (fun e1 => ?_) (fun e1 => ?_)
    · refine ⟨_, rfl, .inl ⟨z, rfl, hz, fun H1 x1 => ⟨_, rfl, ?_⟩⟩⟩
      refine ifB (fun e2 => ?_) (fun e2 => ?_)
      · refine ⟨_, rfl, z, rfl, fun D hD => lcS (K := K) (fun c => !decide (c ∈ tl y)) hD ok (by omega) (fun _ => rfl) rfl (fun c H2 Pt hc x2 hp => ⟨_, rfl, _, rfl, c, y, rfl, rfl, _, rfl, hp⟩) ?_⟩
        intro H2 x2 hn
        refine ⟨by decide, fun p hp => nil_eq (hn.ex (ex_new hp)) upd_same ?_⟩
        rw [filter_none]
        refine k _ _ ?_ ((x1.trans x2).trans (ex_new hp))
        unfold isSig
        rw [e1, e2]
        simp only [Bool.not_not, Bool.true_and]
      · refine k _ _ ?_ x1
        unfold isSig
        rw [e2]
        simp
    · refine k _ _ ?_ (Evl.Ex.refl H)
      unfold isSig
      rw [e1]
      rfl
end
end Om
end PartA5
section PartB1
set_option Elab.async false
set_option linter.all false
set_option maxRecDepth 100000
set_option maxHeartbeats 400000
namespace Om
open PySem PySem.Spec PyProof.Rows L2 He TL
def ltr : Fm → Nat
  | .num => 110
  | .sig => 115
  | .all => 97
  | .nums => 78
def ltrs (fs : List Fm) : Str := ⟨(fs.map ltr).toArray⟩
def kinds : List (Key × V) := [(.inr "turn", .str "N"), (.inr "walk", .str "nn"), (.inr "until", .str "s"), (.inr "toward", .str "s"), (.inr "beside", .str "na"), (.inr "near", .str "an"), (.inr "shore", .str "nnn")]
theorem kinds_merge : mergeK [] kinds = kinds := rfl
theorem kinds_val (h : Str) : valV kinds (.inr h) = (formsOf h).map fun fs => V.str (ltrs fs) := by
  unfold formsOf
  have ne : ∀ {x y : Str}, ¬ y = x → ¬ (Sum.inr x : Key) = .inr y := fun n e => n (Sum.inr.inj e).symm
  unfold kinds
  by_cases h1 : h = "turn"
  · rw [if_pos h1, valV_pos (by rw [h1])]; rfl
  rw [if_neg h1, valV_neg (ne h1)]
  by_cases h1 : h = "walk"
  · rw [if_pos h1, valV_pos (by rw [h1])]; rfl
  rw [if_neg h1, valV_neg (ne h1)]
  by_cases h1 : h = "until"
  · rw [if_pos h1, valV_pos (by rw [h1])]; rfl
  rw [if_neg h1, valV_neg (ne h1)]
  by_cases h1 : h = "toward"
  · rw [if_pos h1, valV_pos (by rw [h1])]; rfl
  rw [if_neg h1, valV_neg (ne h1)]
  by_cases h1 : h = "beside"
  · rw [if_pos h1, valV_pos (by rw [h1])]; rfl
  rw [if_neg h1, valV_neg (ne h1)]
  by_cases h1 : h = "near"
  · rw [if_pos h1, valV_pos (by rw [h1])]; rfl
  rw [if_neg h1, valV_neg (ne h1)]
  by_cases h1 : h = "shore"
  · rw [if_pos h1, valV_pos (by rw [h1])]; rfl
  rw [if_neg h1, valV_neg (ne h1)]
  rfl
theorem rise_rng (l : List Nat) : ((rng 1 (l.length - 1)).all fun k => !(!decide ([l.getD (k - 1).toNat 0] < [l.getD k.toNat 0]))) = rising l := by
  rw [Bool.eq_iff_iff, List.all_eq_true, rising_iff]
  constructor
  · intro h j hj
    have := h (1 + (j : Int)) (rng_mem.mpr (by omega))
    rw [Bool.not_not, lt1, show (1 + (j : Int) - 1).toNat = j by omega, show (1 + (j : Int)).toNat = j + 1 by omega] at this
    exact of_decide_eq_true this
  · intro h k hk
    have hk := rng_mem.mp hk
    have := h (k - 1).toNat (by omega)
    rw [Bool.not_not, lt1, show k.toNat = (k - 1).toNat + 1 by omega]
    exact decide_eq_true this
section
variable {w : World} {K : Frg} {mg : Str → Option Value} {base : Heap}
/-- _law_parts -/
def sp__law_parts : Sp := fun vs H Q _ => ∃ h : Str, vs = [.str h] ∧ (formsOf h = none → ∀ H', Ex H H' → Q .non H') ∧ (∀ fs, formsOf h = some fs → ∀ H', Ex H H' → Q (.str (ltrs fs)) H')
theorem sc__law_parts : FnScope ["_law_word", "_law_kinds"] ["_law_word"] (defScope s__law_parts) := ⟨rfl, rfl, rfl, by decide +kernel, rfl, by decide +kernel, by decide +kernel⟩
theorem ok__law_parts (T : Tx w K mg) : FnOk prg w K mg base CX0 1 (ga K "_law_parts") (fdOf K (ga K "_law_parts")) ["_law_word"] sp__law_parts := by
  refine T.f__law_parts.ok sc__law_parts (fun vs H Q E h => ?_) (fun cdv A outer s H vs Q E hr h => ?_)
  · obtain ⟨h, rfl, _⟩ := h
    rfl
  · obtain ⟨h, rfl, q1, q2⟩ := h
    refine ⟨_, PSs.nox (pss_cons (ps_set (i := 1) sc__law_parts.nd rfl (Or.inl rfl) (pe_disp (pps_cons pe_str pe_str (pps_cons pe_str pe_str (pps_cons pe_str pe_str (pps_cons pe_str pe_str (pps_cons pe_str pe_str (pps_cons pe_str pe_str (pps_cons pe_str pe_str pps_nil))))))) (by rfl) (by rfl) (fun z => by cases z) (by decide)))
      (pss_one (ps_ret (pe_dget2 (hu_of hr) (pv 1) (pv 0) pe_non (by exact ⟨rfl, rfl, rfl, rfl⟩))))), ?_⟩
    refine fun p hp => ⟨upd_same, kinds, rfl, by decide, ?_⟩
    rw [kinds_merge]
    have e : Ex H (upd (upd H p (.dK [])) p (.dK kinds)) := fun b o hb => by
      rw [upd_ne (ne_of_none hb hp), upd_ne (ne_of_none hb hp)]
      exact hb
    refine ⟨_, rfl, p, rfl, .inl ⟨kinds, .inl upd_same⟩, _, rfl, _, .k (k := .inr h) upd_same, ?_⟩
    cases ef : formsOf h with
    | none =>
      rw [kinds_val, ef]
      exact q1 ef _ e
    | some fs =>
      rw [kinds_val, ef]
      exact q2 fs ef _ e
/-- _law_is_number -/
def sp__law_is_number : Sp := fun vs H Q _ => ∃ z : Str, vs = [.str z] ∧ PyData.strOk z = true ∧ z.cps.size ≤ 1000 ∧ ∀ b H', b = isNum z → Ex H H' → Q (.bl b) H'
theorem sc__law_is_number : FnScope ["_law_word", "_law_sign_here"] ["_law_word"] (defScope s__law_is_number) := ⟨rfl, rfl, rfl, by decide +kernel, rfl, by decide +kernel, by decide +kernel⟩
theorem ok__law_is_number (T : Tx w K mg) : FnOk prg w K mg base CX0 1 (ga K "_law_is_number") (fdOf K (ga K "_law_is_number")) ["_law_word"] sp__law_is_number := by
  refine T.f__law_is_number.ok sc__law_is_number (fun vs H Q E h => ?_) (fun cdv A outer s H vs Q E hr h => ?_)
  · obtain ⟨z, rfl, _⟩ := h
    rfl
  · obtain ⟨z, rfl, ok, hz, k⟩ := h
    refine ⟨_, PSs.nox (pss_cons (ps_if (PW.pt (pw_or (pt_cmpR (op_neD hr.units) (pe_lc (own := [("_law_sign_here", 1)]) (g := gName 1) rfl sc__law_is_number.nd (pi_str (pv 0)) (blkOk_by (own := [("_law_sign_here", 1)]) (N := ["_law_word", "_law_sign_here"]) (sc := defScope s__law_is_number) (by decide +kernel)) (fun _ _ _ _ _ => pg_name (i := 1) sc__law_is_number.nd rfl (Or.inl rfl)) (fun _ _ _ _ _ => pts_one (pt_cmpR op_notIn_sign (pv 1) pe_str (by rfl))) (fun _ _ _ _ _ => (pv 1))) (pe_lst pa_nil) (nomark _)) (pw_or1 (pt_not (pt_chain op_le op_le pe_int (pe_callB call_len_str (by rfl) T.b_len PySem.boot_len (pa_cons (pv 0) pa_nil)) pe_int))))) (pss_one (ps_ret pe_bl)) pss_nil)
      (pss_one (ps_ret (pe_or (pe_cmpR op_eq (pv 0) pe_str (nomark _)) (pe_one (pe_cmpR op_ne (pe_ix ix_str (pv 0) pe_int (fun _ _ => rfl)) pe_str (nomark _))))))), ?_⟩
    have hz' : z.length ≤ sizeLine := Evl.sz_of (show z.length ≤ 100000 from Nat.le_trans (show z.cps.size ≤ 1000 from hz) (by decide))
    have hl : (z.length : Int) = ((tl z).length : Int) := by rw [len_tl]
    have bad : ∀ H1, Ex H H1 → (1 ≤ (tl z).length ∧ (tl z).length ≤ 2 → (tl z).all isDig = false) → Q (.bl false) H1 := fun H1 x1 h => by
      refine k _ _ ?_ x1
      unfold isNum
      by_cases h1 : 1 ≤ (tl z).length
      · by_cases h2 : (tl z).length ≤ 2
        · rw [h ⟨h1, h2⟩]
          simp
        · rw [decide_eq_false h2]
          simp
      · rw [decide_eq_false h1]
        simp
    have last : ∀ H1, Ex H H1 → (1 ≤ (tl z).length ∧ (tl z).length ≤ 2) → (tl z).all isDig = true → tRet
      (tOrV (tOp rEq (tVar 0) (tC (V.str (Str.ofString "0"))))
        (tOp rNe (tOp rIxS (tVar 0) (tC (V.int 0))) (tC (V.str (Str.ofString "0"))))) { nx := fun x H' => Q V.non H', rt := Q } (L2.start [Str.ofString "_law_word", Str.ofString "_law_sign_here"] [V.str z]) H1 := by
      intro H1 x1 ⟨h1, h2⟩ h3
      refine ⟨_, rfl, rfl, _, rfl, ?_⟩
      have e0 : tl (Str.ofString "0") = [48] := by decide +kernel
      rw [vstr_eq, e0]
      have en : isNum z = (decide (tl z = [48]) || decide ((tl z).head? ≠ some 48)) := by
        unfold isNum
        rw [decide_eq_true h1, decide_eq_true h2, h3]
        rfl
      refine ifB (fun e => k _ _ (by rw [en, e]; rfl) x1) (fun e => ?_)
      obtain ⟨c, r, hc⟩ : ∃ c r, tl z = c :: r := by
        cases q : tl z with
        | nil => rw [q] at h1; exact absurd h1 (by decide)
        | cons c r => exact ⟨c, r, rfl⟩
      refine ⟨_, rfl, z, 0, c, rfl, rfl, hz', ?_, rfl, k _ _ ?_ x1⟩
      · exact atI_nat (j := 0) (by show (tl z)[0]? = some c; rw [hc]; rfl)
      · rw [vstr_eq, e0, en, e, hc]
        show (!decide ([c] = [48])) = (false || decide ((c :: r).head? ≠ some 48))
        by_cases q : c = 48
        · subst q
          rfl
        · have a : ¬ [c] = [48] := fun h => q (by simpa using h)
          have b : (c :: r).head? ≠ some 48 := fun h => q (by simpa using h)
          rw [decide_eq_false a, decide_eq_true b]
          rfl
    refine ⟨_, rfl, z, rfl, fun D hD => lcS (K := K) (fun c => !decide (c ∈ tl (Str.ofString "0123456789"))) hD ok (by omega) (fun _ => rfl) rfl (fun c H2 Pt hc x2 hp => ⟨_, rfl, c, _, rfl, rfl, _, rfl, hp⟩) ?_⟩
    intro H2 x2 hn
    refine ⟨by decide, fun p hp => nil_ne (hn.ex (ex_new hp)) upd_same ⟨_, rfl, ?_⟩⟩
    rw [filter_none]
    have ed : ((tl z).all fun c => !(!decide (c ∈ tl (Str.ofString "0123456789")))) = (tl z).all isDig := by
      congr 1
      funext c
      rw [Bool.not_not, dig_mem]
    rw [ed]
    have x3 := x2.trans (ex_new (o := .lst []) hp)
    refine ifB (fun e => bad _ x3 fun _ => by simpa using e) (fun e => ?_)
    have e' : (tl z).all isDig = true := by simpa using e
    refine ⟨_, rfl, z, rfl, hz', _, _, rfl, rfl, _, rfl, ?_⟩
    refine ifB (fun e1 => ?_) (fun e1 => ?_)
    · refine ⟨_, _, rfl, rfl, _, rfl, ?_⟩
      refine ifB (fun e2 => ?_) (fun e2 => ?_)
      · refine bad _ x3 (fun h => ?_)
        have e3 : decide ((z.length : Int) ≤ 2) = false := by simpa using e2
        have := of_decide_eq_false e3
        omega
      · have e3 : decide ((z.length : Int) ≤ 2) = true := by simpa using e2
        have h1 := of_decide_eq_true e1
        have h2 := of_decide_eq_true e3
        exact last _ x3 (by omega) e'
    · refine ⟨_, rfl, ?_⟩
      refine iteT ?_
      refine bad _ x3 (fun h => ?_)
      have := of_decide_eq_false e1
      omega
/-- _law_is_signs -/
def sp__law_is_signs : Sp := fun vs H Q _ => ∃ (z : Str) (wt : Bool), vs = [.str z, .bl wt] ∧ PyData.strOk z = true ∧ z.cps.size ≤ 1000 ∧ ∀ b H', b = isSig (if wt = true then knA else knS) z → Ex H H' → Q (.bl b) H'
theorem sc__law_is_signs : FnScope ["_law_word", "_law_water", "_law_known", "_law_good", "_law_sign_here", "_law_k"] ["_law_word", "_law_water"] (defScope s__law_is_signs) := ⟨rfl, rfl, rfl, by decide +kernel, rfl, by decide +kernel, by decide +kernel⟩
theorem ok__law_is_signs (T : Tx w K mg) : FnOk prg w K mg base CX0 1 (ga K "_law_is_signs") (fdOf K (ga K "_law_is_signs")) ["_law_word", "_law_water"] sp__law_is_signs := by
  refine T.f__law_is_signs.ok sc__law_is_signs (fun vs H Q E h => ?_) (fun cdv A outer s H vs Q E hr h => ?_)
  · obtain ⟨z, wt, rfl, _⟩ := h
    rfl
  · obtain ⟨z, wt, rfl, ok, hz, k⟩ := h
    refine ⟨_, PSs.nox (pss_cons (ps_set (i := 2) sc__law_is_signs.nd rfl (Or.inr rfl) (pe_op op_add_str pe_str (pe_ifExp (pt_val (pv 1)) pe_str pe_str)))
      (pss_cons (ps_set (i := 3) sc__law_is_signs.nd rfl (Or.inl rfl) (pe_and (pe_cmpR (op_eqD hr.units) (pe_lc (own := [("_law_sign_here", 4)]) (g := gName 4) rfl sc__law_is_signs.nd (pi_str (pv 0)) (blkOk_by (own := [("_law_sign_here", 4)]) (N := ["_law_word", "_law_water", "_law_known", "_law_good", "_law_sign_here", "_law_k"]) (sc := defScope s__law_is_signs) (by decide +kernel)) (fun _ _ _ _ _ => pg_name (i := 4) sc__law_is_signs.nd rfl (Or.inl rfl)) (fun _ _ _ _ _ => pts_one (pt_cmpR op_notIn_sign (pv 4) (pv 2) (by rfl))) (fun _ _ _ _ _ => (pv 4))) (pe_lst pa_nil) (nomark _)) (pe_one (pe_cmpR op_ne (pv 0) pe_str (nomark _)))))
      (pss_one (ps_ret (pe_and (pv 3) (pe_one (pe_cmpR (op_eqD hr.units) (pe_lc (own := [("_law_k", 5)]) (g := gName 5) rfl sc__law_is_signs.nd (pi_range2 (by rfl) T.b_range (pa_cons pe_int (pa_cons (pe_callB call_len_str (by rfl) T.b_len PySem.boot_len (pa_cons (pv 0) pa_nil)) pa_nil))) (blkOk_by (own := [("_law_k", 5)]) (N := ["_law_word", "_law_water", "_law_known", "_law_good", "_law_sign_here", "_law_k"]) (sc := defScope s__law_is_signs) (by decide +kernel)) (fun _ _ _ _ _ => pg_name (i := 5) sc__law_is_signs.nd rfl (Or.inl rfl)) (fun _ _ _ _ _ => pts_one (pt_cmpR op_ge_str (pe_ix ix_str (pv 0) (pe_op op_sub (pv 5) pe_int) (fun _ _ => rfl)) (pe_ix ix_str (pv 0) (pv 5) (fun _ _ => rfl)) (nomark _))) (fun _ _ _ _ _ => (pv 5))) (pe_lst pa_nil) (nomark _)))))))), ?_⟩
    have hz' : z.length ≤ sizeLine := Evl.sz_of (show z.length ≤ 100000 from Nat.le_trans (show z.cps.size ≤ 1000 from hz) (by decide))
    have hl : (z.length : Int) = ((tl z).length : Int) := by rw [len_tl]
    have hzl : z.length = z.cps.size := rfl
    cases wt
    all_goals
      refine ⟨_, rfl, _, rfl, ?_⟩
      first
        | refine iteT ?_
        | refine iteF ?_
      refine ⟨_, _, rfl, rfl, by decide +kernel, ?_⟩
      simp only [Bool.false_eq_true, if_false, if_true] at k
      first
        | (generalize hy : Str.ofString ".ABCDEFGHIJKLMNOPQRSTUVWXYZ" ++ Str.ofString "" = y
           have ek : tl y = knS := by rw [← hy]; decide +kernel
           rw [← ek] at k)
        | (generalize hy : Str.ofString ".ABCDEFGHIJKLMNOPQRSTUVWXYZ" ++ Str.ofString "~" = y
           have ek : tl y = knA := by rw [← hy]; decide +kernel
           rw [← ek] at k)
      refine ⟨_, rfl, z, rfl, fun D hD => lcS (K := K) (fun c => !decide (c ∈ tl y)) hD ok (by omega) (fun _ => rfl) rfl (fun c H2 Pt hc x2 hp => ⟨_, rfl, _, rfl, c, _, rfl, rfl, _, rfl, hp⟩) ?_⟩
      intro H2 x2 hn
      refine ⟨by decide, fun p hp => nil_eq (hn.ex (ex_new hp)) upd_same ⟨_, rfl, ?_⟩⟩
      rw [filter_none]
      have x3 := x2.trans (ex_new (o := .lst []) hp)
      have ea : ((tl z).all fun c => !(!decide (c ∈ tl y))) = (tl z).all fun c => decide (c ∈ tl y) := by
        congr 1
        funext c
        rw [Bool.not_not]
      rw [ea]
      have e0 : tl (Str.ofString "") = [] := by decide +kernel
      refine ifB (fun e1 => ⟨_, rfl, rfl, ?_⟩) (fun e1 => ⟨_, rfl, _, rfl, ?_⟩)
      · rw [vstr_eq, e0]
        refine ⟨_, rfl, _, rfl, ifB (fun e2 => ?_) (fun e2 => ?_)⟩
        · have e2' : tl z ≠ [] := by simpa using e2
          refine ⟨_, rfl, z, rfl, hz', 1, _, rfl, ⟨by decide, by decide, by omega, by omega⟩, fun D2 hD2 => lcR (K := K) (fun k => !decide ([(tl z).getD (k - 1).toNat 0] < [(tl z).getD k.toNat 0])) hD2 (by omega) (fun _ => rfl) rfl (fun i H3 Pt hi x4 hp4 => ?_) ?_⟩
          · have hc1 : (tl z)[i]? = some ((tl z).getD i 0) := by
              rw [List.getD_eq_getElem?_getD, List.getElem?_eq_getElem (by omega)]
              rfl
            have hc2 : (tl z)[1 + i]? = some ((tl z).getD (1 + i) 0) := by
              rw [List.getD_eq_getElem?_getD, List.getElem?_eq_getElem (by omega)]
              rfl
            have t1 : (1 + (i : Int) - 1).toNat = i := by omega
            have t2 : (1 + (i : Int)).toNat = 1 + i := by omega
            rw [t1, t2] at hp4
            refine ⟨_, rfl, _, rfl, _, _, rfl, rfl, z, _, _, rfl, rfl, hz', ?_, _, rfl, _, rfl, z, _, _, rfl, rfl, hz', ?_, _, _, rfl, rfl, _, rfl, hp4⟩
            · rw [show 1 + (i : Int) - 1 = (i : Nat) by omega]
              exact atI_nat hc1
            · rw [show 1 + (i : Int) = ((1 + i : Nat) : Int) by omega]
              exact atI_nat hc2
          · intro H3 x4 hn4
            refine ⟨by decide, fun p4 hp4 => nil_eq (hn4.ex (ex_new hp4)) upd_same ?_⟩
            rw [filter_noneI]
            refine k _ _ ?_ ((x3.trans x4).trans (ex_new hp4))
            have en : ((z.length : Int) - 1).toNat = (tl z).length - 1 := by omega
            rw [en, rise_rng]
            unfold isSig
            rw [e1, decide_eq_true e2']
            simp
        · refine k _ _ ?_ x3
          have e2' : tl z = [] := by simpa using e2
          unfold isSig
          rw [e2']
          rfl
      · refine iteF (k _ _ ?_ x3)
        unfold isSig
        rw [e1]
        simp
end
end Om
end PartB1
section PartPL2
set_option Elab.async false
set_option linter.all false
/-! Plain lemmas on words. -/
namespace Om
open PySem L2 TL
theorem foldl_dig : ∀ (l : List Nat), l.all isDig = true → ∀ n : Nat, l.foldl (fun (t : Int) (c : Nat) => t * 10 + ((c : Int) - 48)) (n : Int) = ((l.foldl (fun acc c => acc * 10 + (c - 48)) n : Nat) : Int)
  | [], _, _ => rfl
  | c :: r, h, n => by
    rw [List.all_cons, Bool.and_eq_true] at h
    have hc : 48 ≤ c := by
      have := h.1
      unfold isDig at this
      exact of_decide_eq_true (Bool.and_eq_true_iff.mp this).1
    rw [List.foldl_cons, List.foldl_cons, ← foldl_dig r h.2]
    congr 1
    omega
theorem isNum_all {z : Str} (h : isNum z = true) : (1 ≤ (tl z).length ∧ (tl z).length ≤ 2) ∧ (tl z).all isDig = true := by
  unfold isNum at h
  simp only [Bool.and_eq_true, decide_eq_true_eq] at h
  exact ⟨h.1.1, h.1.2⟩
theorem int_word {z : Str} (h : isNum z = true) : PySem.intText? z = some (numV z) ∧ z.length ≤ 640 ∧ 0 ≤ numV z ∧ numV z ≤ 99 := by
  obtain ⟨⟨h1, h2⟩, h3⟩ := isNum_all h
  have hd : NumText.AllDigits z.cps.toList := fun c hc => by
    have := List.all_eq_true.mp h3 c hc
    unfold isDig at this
    have := Bool.and_eq_true_iff.mp this
    exact ⟨of_decide_eq_true this.1, of_decide_eq_true this.2⟩
  have hn : z.cps.toList ≠ [] := fun q => by
    have e : (tl z).length = 0 := by show z.cps.toList.length = 0; rw [q]; rfl
    omega
  have hl : z.length = (tl z).length := len_tl z
  have ev : numV z = ((NumText.digitsVal z.cps.toList : Nat) : Int) := foldl_dig _ h3 0
  refine ⟨by rw [ev]; exact PySem.intText_digits hd hn (by omega), by omega, by rw [ev]; exact Int.natCast_nonneg _, ?_⟩
  rw [ev]
  match q : z.cps.toList, h1, h2, hd with
  | [c], _, _, hd =>
    have := hd c (by simp)
    show ((0 * 10 + (c - 48) : Nat) : Int) ≤ 99
    omega
  | [c, d], _, _, hd =>
    have a := hd c (by simp)
    have b := hd d (by simp)
    show (((0 * 10 + (c - 48)) * 10 + (d - 48) : Nat) : Int) ≤ 99
    omega
  | [], h1, _, _ => exact absurd q hn
  | a1 :: a2 :: a3 :: r, _, _, _ =>
    have e : (tl z).length = (a1 :: a2 :: a3 :: r).length := congrArg List.length q
    rw [List.length_cons, List.length_cons, List.length_cons] at e
    omega
theorem inV_str (z : Str) : ∀ kn : List Str, inV (.str z) (kn.map V.str) = decide (z ∈ kn)
  | [] => by simp [inV]
  | y :: r => by
    have ih := inV_str z r
    unfold inV at ih ⊢
    rw [List.map_cons, List.any_cons, ih]
    show ((y == z) || decide (z ∈ r)) = _
    by_cases h : z = y
    · subst h
      simp
    · have e : (y == z) = false := by simpa using fun q => h q.symm
      rw [e]
      simp [h]
theorem flat_str : ∀ kn : List Str, (kn.map V.str).all flatV = true
  | [] => rfl
  | y :: r => by
    rw [List.map_cons, List.all_cons, flat_str r]
    rfl
end Om
end PartPL2
section PartA6
set_option Elab.async false
set_option linter.all false
set_option maxRecDepth 100000
set_option maxHeartbeats 400000
namespace Om
open PySem PySem.Spec PyProof.Rows L2 He TL
section
variable {w : World} {K : Frg} {mg : Str → Option Value} {base : Heap}
/-- Line.take_word -/
def sp_Line_take_word (K : Frg) : Sp := fun vs H Q E => ∃ (a b : Addr) (n : Int) (k : Nat) (ws kn : List Str) (dx wa : Addr), vs = [.ref a, .ref b] ∧ LnX K H a n ws k dx wa ∧ SqT K H b (kn.map V.str) ∧
  (∀ z, ws[k]? = some z → z ∈ kn → ∀ H', Ky [a] H H' → LnX K H' a n ws (k + 1 : Nat) dx wa → Q (.str z) H') ∧ ((∀ z, ws[k]? = some z → z ∉ kn) → Fails K [a] H n k E)
theorem sc_Line_take_word : FnScope ["self", "known"] ["self", "known"] (defScope s_Line_take_word) := ⟨rfl, rfl, rfl, by decide +kernel, rfl, by decide +kernel, by decide +kernel⟩
theorem ok_Line_take_word (T : Tx w K mg) : FnOk prg w K mg base (L2.CX prg w) 6 (ma K (ga K "Line") "take_word") (fdOf K (ma K (ga K "Line") "take_word")) ["self", "known"] (sp_Line_take_word K) := by
  refine T.f_Line_take_word.ok sc_Line_take_word (fun vs H Q E h => ?_) (fun cdv A outer s H vs Q E hr h => ?_)
  · obtain ⟨a, b, n, k, ws, kn, dx, wa, rfl, _⟩ := h
    rfl
  · obtain ⟨a, b, n, k, ws, kn, dx, wa, rfl, hl, hb, q, f⟩ := h
    refine ⟨_, (pss_cons (ps_if (PW.pt (pw_or (pt_val (SlX.pe_methSl0 (pv 0) T.ln T.m_Line_is_over ((ok_Line_is_over T).raw T.p_Line_is_over .nil) (hr.mono (by decide)) pass0)) (pw_or1 (pt_cmpR op_notIn_seq (pe_ix ix_list (SlX.pe_sl (pv 0) (by rfl)) (SlX.pe_sl (pv 0) (by rfl)) (fun _ _ => rfl)) (pv 1) (by rfl))))) (pss_one (ps_expr (SlX.pe_methSl0 (pv 0) T.ln T.m_Line_fail ((ok_Line_fail T).raw T.p_Line_fail .nil) (hr.mono (by decide)) (passes_call (takes_of rfl rfl rfl rfl) fun _ _ _ _ z => z)))) pss_nil)
      (pss_one (ps_ret (SlX.pe_methSl0 (pv 0) T.ln T.m_Line_take ((ok_Line_take T).raw T.p_Line_take .nil) (hr.mono (by decide)) (passes_call (takes_of rfl rfl rfl rfl) fun _ _ _ _ z => z))))), ?_⟩
    obtain ⟨hdx, hwa, hwd, hs, hw⟩ := hl.slt
    have bad : (∀ z, ws[k]? = some z → z ∉ kn) → Fails K [] H n k E := fun h d H' k' e => f h d H' (k'.mono (by simp)) e
    refine ⟨_, rfl, a, dx, _, rfl, hs, a, n, k, ws, rfl, hl.w, _, rfl, ?_⟩
    refine ifB (fun e => ?_) (fun e => ?_)
    · refine iteT ⟨_, rfl, a, dx, _, rfl, hs, a, n, k, ws, rfl, hl.w, bad fun z hz => ?_⟩
      have h1 := of_decide_eq_true e
      have h2 := (List.getElem?_eq_some_iff.mp hz).1
      omega
    · have e' : k < ws.length := by
        have := of_decide_eq_false e
        omega
      have hz : ws[k]? = some ws[k] := List.getElem?_eq_getElem e'
      refine ⟨_, rfl, a, _, dx, _, _, 2, _, rfl, hs, T.ln, T.s_words, rfl, _, rfl, a, _, dx, _, _, 0, _, rfl, hs, T.ln, T.s_at, rfl, wa, _, k, .str ws[k], rfl, rfl, .of hw, atI_nat (by rw [List.getElem?_map, hz]; rfl), _, rfl, b, _, rfl, .inr hb, rfl, flat_str kn, _, rfl, ?_⟩
      show if (!inV (V.str ws[k]) (kn.map V.str)) = true then _ else _
      rw [inV_str]
      refine ifB (fun e2 => ?_) (fun e2 => ?_)
      · refine ⟨_, rfl, a, dx, _, rfl, hs, a, n, k, ws, rfl, hl.w, bad fun z hz' => ?_⟩
        rw [hz] at hz'
        cases hz'
        simpa using e2
      · have hm : ws[k] ∈ kn := by simpa using e2
        refine ⟨_, rfl, a, dx, _, rfl, hs, a, n, k, ws, dx, wa, rfl, hl, fun z hz' H' k' l' => q z hz' ?_ H' k' l', fun h => absurd h (by omega)⟩
        rw [hz] at hz'
        cases hz'
        exact hm
/-- words that may be read -/
def OkW (ws : List Str) : Prop := ∀ z ∈ ws, PyData.strOk z = true ∧ z.cps.size ≤ 1000
/-- Line.take_number -/
def sp_Line_take_number (K : Frg) : Sp := fun vs H Q E => ∃ (a : Addr) (n : Int) (k : Nat) (ws : List Str) (dx wa : Addr), vs = [.ref a] ∧ LnX K H a n ws k dx wa ∧ OkW ws ∧
  (∀ z, ws[k]? = some z → isNum z = true → ∀ H', Ky [a] H H' → LnX K H' a n ws (k + 1 : Nat) dx wa → Q (.int (numV z)) H') ∧ ((∀ z, ws[k]? = some z → isNum z = false) → Fails K [a] H n k E)
theorem sc_Line_take_number : FnScope ["self"] ["self"] (defScope s_Line_take_number) := ⟨rfl, rfl, rfl, by decide +kernel, rfl, by decide +kernel, by decide +kernel⟩
theorem ok_Line_take_number (T : Tx w K mg) : FnOk prg w K mg base (L2.CX prg w) 6 (ma K (ga K "Line") "take_number") (fdOf K (ma K (ga K "Line") "take_number")) ["self"] (sp_Line_take_number K) := by
  refine T.f_Line_take_number.ok sc_Line_take_number (fun vs H Q E h => ?_) (fun cdv A outer s H vs Q E hr h => ?_)
  · obtain ⟨a, n, k, ws, dx, wa, rfl, _⟩ := h
    rfl
  · obtain ⟨a, n, k, ws, dx, wa, rfl, hl, ok, q, f⟩ := h
    refine ⟨_, (pss_cons (ps_if (PW.pt (pw_or (pt_val (SlX.pe_methSl0 (pv 0) T.ln T.m_Line_is_over ((ok_Line_is_over T).raw T.p_Line_is_over .nil) (hr.mono (by decide)) pass0)) (pw_or1 (pt_not (pt_val (pe_call (ok_is_number_word T) (hr.mono (by decide)) (by rfl) T.g_is_number_word T.f_is_number_word.kp T.p_is_number_word .nil pass0 (pa_cons (pe_ix ix_list (SlX.pe_sl (pv 0) (by rfl)) (SlX.pe_sl (pv 0) (by rfl)) (fun _ _ => rfl)) pa_nil))))))) (pss_one (ps_expr (SlX.pe_methSl0 (pv 0) T.ln T.m_Line_fail ((ok_Line_fail T).raw T.p_Line_fail .nil) (hr.mono (by decide)) (passes_call (takes_of rfl rfl rfl rfl) fun _ _ _ _ z => z)))) pss_nil)
      (pss_one (ps_ret (pe_callTy call_int_str (by rfl) T.b_int boot_int (pa_cons (SlX.pe_methSl0 (pv 0) T.ln T.m_Line_take ((ok_Line_take T).raw T.p_Line_take .nil) (hr.mono (by decide)) (passes_call (takes_of rfl rfl rfl rfl) fun _ _ _ _ z => z)) pa_nil))))), ?_⟩
    obtain ⟨hdx, hwa, hwd, hs, hw⟩ := hl.slt
    have bad : (∀ z, ws[k]? = some z → isNum z = false) → Fails K [] H n k E := fun h d H' k' e => f h d H' (k'.mono (by simp)) e
    refine ⟨_, rfl, a, dx, _, rfl, hs, a, n, k, ws, rfl, hl.w, _, rfl, ?_⟩
    refine ifB (fun e => ?_) (fun e => ?_)
    · refine iteT ⟨_, rfl, a, dx, _, rfl, hs, a, n, k, ws, rfl, hl.w, bad fun z hz => ?_⟩
      have h1 := of_decide_eq_true e
      have h2 := (List.getElem?_eq_some_iff.mp hz).1
      omega
    · have e' : k < ws.length := by
        have := of_decide_eq_false e
        omega
      have hz : ws[k]? = some ws[k] := List.getElem?_eq_getElem e'
      have hm := ok _ (List.getElem_mem e')
      refine ⟨_, rfl, a, _, dx, _, _, 2, _, rfl, hs, T.ln, T.s_words, rfl, _, rfl, a, _, dx, _, _, 0, _, rfl, hs, T.ln, T.s_at, rfl, wa, _, k, .str ws[k], rfl, rfl, .of hw, atI_nat (by rw [List.getElem?_map, hz]; rfl), ws[k], rfl, hm.1, hm.2, fun b H1 eb x1 => ⟨_, rfl, ?_⟩⟩
      have hl1 := hl.ex x1
      have bad1 : (∀ z, ws[k]? = some z → isNum z = false) → Fails K [] H1 n k E := fun h => (bad h).go (.of x1)
      obtain ⟨hdx2, hwa2, hwd2, hs2, hw2⟩ := hl1.slt
      refine ifB (fun e2 => ?_) (fun e2 => ?_)
      · refine ⟨_, rfl, a, dx, _, rfl, hs2, a, n, k, ws, rfl, hl1.w, bad1 fun z hz' => ?_⟩
        rw [hz] at hz'
        cases hz'
        rw [eb] at e2
        simpa using e2
      · have hn : isNum ws[k] = true := by
          rw [eb] at e2
          simpa using e2
        refine ⟨_, rfl, a, dx, _, rfl, hs2, a, n, k, ws, dx, wa, rfl, hl1, fun z hz' H' k' l' => ?_, fun h => absurd h (by omega)⟩
        rw [hz] at hz'
        cases hz'
        obtain ⟨i1, i2, _⟩ := int_word hn
        exact ⟨_, _, rfl, i1, i2, q _ hz hn H' ((Ky.of x1).trans k') l'⟩
/-- Line.take_signs -/
def sp_Line_take_signs (K : Frg) : Sp := fun vs H Q E => ∃ (a : Addr) (y : Str) (n : Int) (k : Nat) (ws : List Str) (dx wa : Addr), vs = [.ref a, .str y] ∧ LnX K H a n ws k dx wa ∧ OkW ws ∧
  (∀ z, ws[k]? = some z → isSig (tl y) z = true → ∀ H', Ky [a] H H' → LnX K H' a n ws (k + 1 : Nat) dx wa → Q (.str z) H') ∧ ((∀ z, ws[k]? = some z → isSig (tl y) z = false) → Fails K [a] H n k E)
theorem sc_Line_take_signs : FnScope ["self", "known"] ["self", "known"] (defScope s_Line_take_signs) := ⟨rfl, rfl, rfl, by decide +kernel, rfl, by decide +kernel, by decide +kernel⟩
theorem ok_Line_take_signs (T : Tx w K mg) : FnOk prg w K mg base (L2.CX prg w) 6 (ma K (ga K "Line") "take_signs") (fdOf K (ma K (ga K "Line") "take_signs")) ["self", "known"] (sp_Line_take_signs K) := by
  refine T.f_Line_take_signs.ok sc_Line_take_signs (fun vs H Q E h => ?_) (fun cdv A outer s H vs Q E hr h => ?_)
  · obtain ⟨a, y, n, k, ws, dx, wa, rfl, _⟩ := h
    rfl
  · obtain ⟨a, y, n, k, ws, dx, wa, rfl, hl, ok, q, f⟩ := h
    refine ⟨_, (pss_cons (ps_if (PW.pt (pw_or (pt_val (SlX.pe_methSl0 (pv 0) T.ln T.m_Line_is_over ((ok_Line_is_over T).raw T.p_Line_is_over .nil) (hr.mono (by decide)) pass0)) (pw_or1 (pt_not (pt_val (pe_call (ok_is_sign_word T) (hr.mono (by decide)) (by rfl) T.g_is_sign_word T.f_is_sign_word.kp T.p_is_sign_word .nil pass0 (pa_cons (pe_ix ix_list (SlX.pe_sl (pv 0) (by rfl)) (SlX.pe_sl (pv 0) (by rfl)) (fun _ _ => rfl)) (pa_cons (pv 1) pa_nil)))))))) (pss_one (ps_expr (SlX.pe_methSl0 (pv 0) T.ln T.m_Line_fail ((ok_Line_fail T).raw T.p_Line_fail .nil) (hr.mono (by decide)) (passes_call (takes_of rfl rfl rfl rfl) fun _ _ _ _ z => z)))) pss_nil)
      (pss_one (ps_ret (SlX.pe_methSl0 (pv 0) T.ln T.m_Line_take ((ok_Line_take T).raw T.p_Line_take .nil) (hr.mono (by decide)) (passes_call (takes_of rfl rfl rfl rfl) fun _ _ _ _ z => z))))), ?_⟩
    obtain ⟨hdx, hwa, hwd, hs, hw⟩ := hl.slt
    have bad : (∀ z, ws[k]? = some z → isSig (tl y) z = false) → Fails K [] H n k E := fun h d H' k' e => f h d H' (k'.mono (by simp)) e
    refine ⟨_, rfl, a, dx, _, rfl, hs, a, n, k, ws, rfl, hl.w, _, rfl, ?_⟩
    refine ifB (fun e => ?_) (fun e => ?_)
    · refine iteT ⟨_, rfl, a, dx, _, rfl, hs, a, n, k, ws, rfl, hl.w, bad fun z hz => ?_⟩
      have h1 := of_decide_eq_true e
      have h2 := (List.getElem?_eq_some_iff.mp hz).1
      omega
    · have e' : k < ws.length := by
        have := of_decide_eq_false e
        omega
      have hz : ws[k]? = some ws[k] := List.getElem?_eq_getElem e'
      have hm := ok _ (List.getElem_mem e')
      refine ⟨_, rfl, a, _, dx, _, _, 2, _, rfl, hs, T.ln, T.s_words, rfl, _, rfl, a, _, dx, _, _, 0, _, rfl, hs, T.ln, T.s_at, rfl, wa, _, k, .str ws[k], rfl, rfl, .of hw, atI_nat (by rw [List.getElem?_map, hz]; rfl), _, rfl, ws[k], y, rfl, hm.1, hm.2, fun b H1 eb x1 => ⟨_, rfl, ?_⟩⟩
      have hl1 := hl.ex x1
      have bad1 : (∀ z, ws[k]? = some z → isSig (tl y) z = false) → Fails K [] H1 n k E := fun h => (bad h).go (.of x1)
      obtain ⟨hdx2, hwa2, hwd2, hs2, hw2⟩ := hl1.slt
      refine ifB (fun e2 => ?_) (fun e2 => ?_)
      · refine ⟨_, rfl, a, dx, _, rfl, hs2, a, n, k, ws, rfl, hl1.w, bad1 fun z hz' => ?_⟩
        rw [hz] at hz'
        cases hz'
        rw [eb] at e2
        simpa using e2
      · have hn : isSig (tl y) ws[k] = true := by
          rw [eb] at e2
          simpa using e2
        refine ⟨_, rfl, a, dx, _, rfl, hs2, a, n, k, ws, dx, wa, rfl, hl1, fun z hz' H' k' l' => ?_, fun h => absurd h (by omega)⟩
        rw [hz] at hz'
        cases hz'
        exact q _ hz hn H' ((Ky.of x1).trans k') l'
end
end Om
end PartA6
section PartPL3
set_option Elab.async false
set_option linter.all false
/-! Plain lemmas on rows of words. -/
namespace Om
open PySem L2 TL
theorem numsL_all : ∀ (ws : List Str) (k : Nat), (∀ z ∈ ws, isNum z = true) → numsL ws k = .ok (ws.map numV)
  | [], _, _ => rfl
  | w :: r, k, h => by
    unfold numsL
    rw [if_pos (h w (.head _)), numsL_all r (k + 1) fun z hz => h z (.tail _ hz)]
    rfl
theorem numsL_bad : ∀ (pre : List Str) (z : Str) (post : List Str) (k : Nat), (∀ y ∈ pre, isNum y = true) → isNum z = false → numsL (pre ++ z :: post) k = .error (k + pre.length)
  | [], z, post, k, _, hz => by
    show numsL (z :: post) k = _
    unfold numsL
    rw [if_neg (by rw [hz]; exact Bool.false_ne_true)]
    rfl
  | y :: pre, z, post, k, h, hz => by
    show numsL (y :: (pre ++ z :: post)) k = _
    unfold numsL
    rw [if_pos (h y (.head _)), numsL_bad pre z post (k + 1) (fun x hx => h x (.tail _ hx)) hz]
    show Except.error _ = Except.error _
    rw [List.length_cons, Nat.add_assoc, Nat.add_comm 1]
/-- the words from k up to j are numbers -/
def NumTo (ws : List Str) (k j : Nat) : Prop := ∀ y ∈ (ws.drop k).take (j - k), isNum y = true
theorem numTo_succ {ws : List Str} {k j : Nat} {z : Str} (h : NumTo ws k j) (hk : k ≤ j) (hz : ws[j]? = some z) (hn : isNum z = true) : NumTo ws k (j + 1) ∧ (ws.drop k).take (j + 1 - k) = (ws.drop k).take (j - k) ++ [z] := by
  have e : (ws.drop k).take (j + 1 - k) = (ws.drop k).take (j - k) ++ [z] := by
    rw [show j + 1 - k = (j - k) + 1 by omega, List.take_add_one, List.getElem?_drop, show k + (j - k) = j by omega, hz]
    rfl
  refine ⟨fun y hy => ?_, e⟩
  rw [e] at hy
  rcases List.mem_append.mp hy with hy | hy
  · exact h y hy
  · rw [List.mem_singleton.mp hy]
    exact hn
theorem nums_done {ws : List Str} {k j : Nat} (h : NumTo ws k j) (hj : ws.length ≤ j) (hk : k < ws.length) : partAt .nums ws k = .ok (ws.length, .tuple ((((ws.drop k).take (j - k)).map numV).map PyData.int)) := by
  have e : (ws.drop k).take (j - k) = ws.drop k := List.take_of_length_le (by rw [List.length_drop]; omega)
  have h' : ∀ y ∈ ws.drop k, isNum y = true := fun y hy => h y (by rw [e]; exact hy)
  rw [e]
  unfold partAt
  simp only [hk, if_true, numsL_all _ k h']
theorem nums_stop {ws : List Str} {k j : Nat} {z : Str} (h : NumTo ws k j) (hk : k ≤ j) (hz : ws[j]? = some z) (hn : isNum z = false) : partAt .nums ws k = .error j := by
  have hlt : j < ws.length := (List.getElem?_eq_some_iff.mp hz).1
  have e : ws.drop k = (ws.drop k).take (j - k) ++ z :: ws.drop (j + 1) := by
    conv => lhs; rw [← List.take_append_drop (j - k) (ws.drop k)]
    rw [List.drop_drop, show k + (j - k) = j by omega, List.drop_eq_getElem_cons hlt]
    rw [List.getElem?_eq_getElem hlt] at hz
    cases hz
    rfl
  have el : ((ws.drop k).take (j - k)).length = j - k := by
    rw [List.length_take, List.length_drop]
    omega
  unfold partAt
  rw [if_pos (show k < ws.length by omega)]
  have q := numsL_bad _ z (ws.drop (j + 1)) k h hn
  rw [← e, el, show k + (j - k) = j by omega] at q
  simp only [q]
theorem nums_none {ws : List Str} {k : Nat} (h : ws.length ≤ k) : partAt .nums ws k = .error k := by
  unfold partAt
  rw [if_neg (show ¬ k < ws.length by omega)]
theorem partsAt_cons (f : Fm) (r : List Fm) (ws : List Str) (k : Nat) (acc : List PyData) : partsAt (f :: r) ws k acc = match partAt f ws k with | .ok p => partsAt r ws p.1 (acc ++ [p.2]) | .error e => .error e := by
  show (match partAt f ws k with | .ok (k', d) => partsAt r ws k' (acc ++ [d]) | .error e => .error e) = _
  cases partAt f ws k <;> rfl
theorem partsAt_app (ws : List Str) : ∀ (l1 l2 : List Fm) (k : Nat) (acc : List PyData), partsAt (l1 ++ l2) ws k acc = match partsAt l1 ws k acc with | .ok p => partsAt l2 ws p.1 p.2 | .error e => .error e
  | [], _, _, _ => rfl
  | f :: r, l2, k, acc => by
    rw [List.cons_append, partsAt_cons, partsAt_cons]
    cases partAt f ws k with
    | ok p => exact partsAt_app ws r l2 p.1 (acc ++ [p.2])
    | error e => rfl
theorem partAt_le {fm : Fm} {ws : List Str} {k k' : Nat} {d : PyData} (h : partAt fm ws k = .ok (k', d)) : k' ≤ ws.length := by
  have one : ∀ {z : Str}, ws[k]? = some z → k + 1 ≤ ws.length := fun e => (List.getElem?_eq_some_iff.mp e).1
  cases fm with
  | nums =>
    unfold partAt at h
    simp only at h
    split at h
    · split at h
      · cases h; exact Nat.le_refl _
      · cases h
    · cases h
  | _ =>
    unfold partAt at h
    cases e : ws[k]? with
    | none => simp only [e] at h; cases h
    | some z =>
      simp only [e] at h
      split at h
      · cases h; exact one e
      · cases h
theorem parts_step {ws : List Str} {fs : List Fm} {i : Nat} {f : Fm} {k0 k k' : Nat} {acc ds : List PyData} {d : PyData} (h : partsAt (fs.take i) ws k0 acc = .ok (k, ds)) (hf : fs[i]? = some f) (hp : partAt f ws k = .ok (k', d)) :
    partsAt (fs.take (i + 1)) ws k0 acc = .ok (k', ds ++ [d]) := by
  rw [List.take_add_one, hf]
  show partsAt (fs.take i ++ [f]) ws k0 acc = _
  rw [partsAt_app, h]
  show partsAt [f] ws k ds = _
  rw [partsAt_cons, hp]
  rfl
theorem parts_bad {ws : List Str} {fs : List Fm} {i : Nat} {f : Fm} {k0 k e : Nat} {acc ds : List PyData} (h : partsAt (fs.take i) ws k0 acc = .ok (k, ds)) (hf : fs[i]? = some f) (hp : partAt f ws k = .error e) :
    partsAt fs ws k0 acc = .error e := by
  have hlt : i < fs.length := (List.getElem?_eq_some_iff.mp hf).1
  have e1 : fs = fs.take i ++ f :: fs.drop (i + 1) := by
    conv => lhs; rw [← List.take_append_drop i fs]
    rw [List.drop_eq_getElem_cons hlt]
    rw [List.getElem?_eq_getElem hlt] at hf
    cases hf
    rfl
  rw [e1, partsAt_app, h]
  show partsAt (f :: fs.drop (i + 1)) ws k ds = _
  rw [partsAt_cons, hp]
def heads : List Str := ["turn", "walk", "until", "toward", "beside", "near", "shore"]
theorem heads_forms (h : Str) : h ∈ heads ↔ ∃ fs, formsOf h = some fs := by
  unfold heads formsOf
  simp only [List.mem_cons, List.not_mem_nil, or_false]
  constructor
  · rintro (rfl | rfl | rfl | rfl | rfl | rfl | rfl)
    · exact ⟨[.nums], by decide +kernel⟩
    · exact ⟨[.num, .num], by decide +kernel⟩
    · exact ⟨[.sig], by decide +kernel⟩
    · exact ⟨[.sig], by decide +kernel⟩
    · exact ⟨[.num, .all], by decide +kernel⟩
    · exact ⟨[.all, .num], by decide +kernel⟩
    · exact ⟨[.num, .num, .num], by decide +kernel⟩
  · rintro ⟨fs, e⟩
    split at e; · exact .inl ‹_›
    split at e; · exact .inr (.inl ‹_›)
    split at e; · exact .inr (.inr (.inl ‹_›))
    split at e; · exact .inr (.inr (.inr (.inl ‹_›)))
    split at e; · exact .inr (.inr (.inr (.inr (.inl ‹_›))))
    split at e; · exact .inr (.inr (.inr (.inr (.inr (.inl ‹_›)))))
    split at e; · exact .inr (.inr (.inr (.inr (.inr (.inr ‹_›)))))
    cases e
end Om
end PartPL3
section PartB2
set_option Elab.async false
set_option linter.all false
set_option maxRecDepth 100000
set_option maxHeartbeats 400000
namespace Om
open PySem PySem.Spec PyProof.Rows L2 He TL
def paD (r : Except Nat (Nat × PyData)) : PyData := match r with
  | .ok (k, d) => .tuple [.int k, d]
  | .error e => .int e
def letter (fm : Fm) : Str := ⟨#[ltr fm]⟩
section
variable {w : World} {K : Frg} {mg : Str → Option Value} {base : Heap}
/-- _law_part_at of one word -/
def sp_pa0 (K : Frg) : Sp := fun vs H Q _ => ∃ (wa : Addr) (ws : List Str) (k : Nat) (fm : Fm), vs = [.ref wa, .int k, .str (letter fm)] ∧ H wa = some (.lst (ws.map V.str)) ∧ OkW ws ∧ ws.length ≤ 1000 ∧ fm ≠ .nums ∧
  ∀ v H', Ex H H' → Dp K H' v (paD (partAt fm ws k)) → Q v H'
theorem sc__law_part_at : FnScope ["_law_words", "_law_at", "_law_part", "_law_found", "_law_one_here"] ["_law_words", "_law_at", "_law_part"] (defScope s__law_part_at) := ⟨rfl, rfl, rfl, by decide +kernel, rfl, by decide +kernel, by decide +kernel⟩
theorem ok_pa0 (T : Tx w K mg) : FnOk prg w K mg base CX0 3 (ga K "_law_part_at") (fdOf K (ga K "_law_part_at")) ["_law_words", "_law_at", "_law_part"] (sp_pa0 K) := by
  refine T.f__law_part_at.ok sc__law_part_at (fun vs H Q E h => ?_) (fun cdv A outer s H vs Q E hr h => ?_)
  · obtain ⟨wa, ws, k, fm, rfl, _⟩ := h
    rfl
  · obtain ⟨wa, ws, k, fm, rfl, hw, ok, hz, hf, q⟩ := h
    refine ⟨_, PSs.nox (pss_cons (ps_if (pt_cmpR op_eq (pv 2) pe_str (nomark _)) (pss_cons (ps_set (i := 3) sc__law_part_at.nd rfl (Or.inl rfl) (pe_tup pa_nil))
      (pss_cons (ps_never)
      (pss_one (ps_ret (pe_tup (pa_cons (pv 1) (pa_cons (pv 3) pa_nil))))))) pss_nil)
      (pss_cons (ps_if (pt_cmpR op_ge (pv 1) (pe_callB call_len_seq (by rfl) T.b_len PySem.boot_len (pa_cons (pv 0) pa_nil)) (nomark _)) (pss_one (ps_ret (pv 1))) pss_nil)
      (pss_cons (ps_if (pt_cmpR op_eq (pv 2) pe_str (nomark _)) (pss_one (ps_ret (pe_ifExp (pt_val (pe_call (ok__law_is_number T) (hr.mono (by decide)) (by rfl) T.g__law_is_number T.f__law_is_number.kp T.p__law_is_number .nil pass0 (pa_cons (pe_ix ix_list (pv 0) (pv 1) (fun _ _ => rfl)) pa_nil))) (pe_tup (pa_cons (pe_op op_add (pv 1) pe_int) (pa_cons (pe_callTy call_int_str (by rfl) T.b_int boot_int (pa_cons (pe_ix ix_list (pv 0) (pv 1) (fun _ _ => rfl)) pa_nil)) pa_nil))) (pv 1)))) pss_nil)
      (pss_one (ps_ret (pe_ifExp (pt_val (pe_call (ok__law_is_signs T) (hr.mono (by decide)) (by rfl) T.g__law_is_signs T.f__law_is_signs.kp T.p__law_is_signs .nil pass0 (pa_cons (pe_ix ix_list (pv 0) (pv 1) (fun _ _ => rfl)) (pa_cons (pe_cmpR op_eq (pv 2) pe_str (nomark _)) pa_nil)))) (pe_tup (pa_cons (pe_op op_add (pv 1) pe_int) (pa_cons (pe_ix ix_list (pv 0) (pv 1) (fun _ _ => rfl)) pa_nil))) (pv 1))))))), ?_⟩
    have hzz : (ws.map V.str).length ≤ sizeLine := Evl.sz_of (by rw [List.length_map]; omega)
    refine ⟨_, rfl, rfl, _, rfl, ?_⟩
    have fN : decide (V.str (letter fm) = V.str (Str.ofString "N")) = false := by
      cases fm with
      | nums => exact absurd rfl hf
      | num => decide +kernel
      | sig => decide +kernel
      | all => decide +kernel
    rw [fN]
    refine iteF ?_
    refine ⟨_, rfl, _, rfl, wa, _, rfl, .inl (.of hw), _, _, rfl, rfl, _, rfl, ?_⟩
    rw [List.length_map]
    refine ifB (fun e => ?_) (fun e => ?_)
    · have e1 := of_decide_eq_true e
      have hn : ws[k]? = none := List.getElem?_eq_none (by omega)
      refine ⟨_, rfl, q _ _ (Evl.Ex.refl H) ?_⟩
      have ep : partAt fm ws k = .error k := by
        cases fm with
        | nums => exact absurd rfl hf
        | num => unfold partAt; simp only [hn]
        | sig => unfold partAt; simp only [hn]
        | all => unfold partAt; simp only [hn]
      rw [ep]
      exact .int _
    · have e1 : k < ws.length := by
        have := of_decide_eq_false e
        omega
      have hzk : ws[k]? = some ws[k] := List.getElem?_eq_getElem e1
      obtain ⟨okz, szz⟩ := ok _ (List.getElem_mem e1)
      have hat : atI (ws.map V.str) (k : Nat) = some (.str ws[k]) := atI_nat (by rw [List.getElem?_map, hzk]; rfl)
      generalize ws[k] = z at hzk okz szz hat
      have nosg : ∀ {kn : List Nat} {fm : Fm}, (fm = .sig ∧ kn = knS ∨ fm = .all ∧ kn = knA) → partAt fm ws k = if isSig kn z = true then .ok (k + 1, .str z) else .error k := fun {kn fm} h => by
        rcases h with ⟨rfl, rfl⟩ | ⟨rfl, rfl⟩ <;> (unfold partAt; simp only [hzk])
      have sg : ∀ {wt : Bool} {fm : Fm}, (wt = false ∧ fm = .sig ∨ wt = true ∧ fm = .all) → decide (V.str (letter fm) = V.str (Str.ofString "n")) = false ∧ decide (V.str (letter fm) = V.str (Str.ofString "a")) = wt ∧
          partAt fm ws k = if isSig (if wt = true then knA else knS) z = true then .ok (k + 1, .str z) else .error k := fun {wt fm} h => by
        rcases h with ⟨rfl, rfl⟩ | ⟨rfl, rfl⟩
        · exact ⟨by decide +kernel, by decide +kernel, nosg (.inl ⟨rfl, rfl⟩)⟩
        · exact ⟨by decide +kernel, by decide +kernel, nosg (.inr ⟨rfl, rfl⟩)⟩
      refine ⟨_, rfl, rfl, _, rfl, ?_⟩
      by_cases hfm : fm = .num
      · subst hfm
        refine ifB (fun _ => ?_) (fun e => absurd e (by decide +kernel))
        refine ⟨_, rfl, _, rfl, wa, _, k, .str z, rfl, rfl, .of hw, hat, z, rfl, okz, szz, fun b H1 eb x1 => ⟨_, rfl, ?_⟩⟩
        refine ifB (fun e2 => ?_) (fun e2 => ?_)
        · rw [eb] at e2
          obtain ⟨i1, i2, _⟩ := int_word e2
          refine ⟨_, rfl, _, _, rfl, rfl, _, rfl, _, rfl, wa, _, k, .str z, rfl, rfl, .of (x1 _ _ hw), hat, z, _, rfl, i1, i2, Evl.sz_of (by simp), fun p hp => ?_⟩
          have ep : partAt .num ws k = .ok (k + 1, .int (numV z)) := by unfold partAt; simp only [hzk, e2, if_true]
          refine q _ _ (x1.trans (ex_new hp)) ?_
          rw [ep]
          exact .tup (.of upd_same) (.cons (.int _) (.cons (.int _) .nil))
        · rw [eb] at e2
          have ep : partAt .num ws k = .error k := by unfold partAt; simp only [hzk, e2, Bool.false_eq_true, if_false]
          refine ⟨_, rfl, q _ _ x1 ?_⟩
          rw [ep]
          exact .int _
      · obtain ⟨wt, hwt⟩ : ∃ wt : Bool, wt = false ∧ fm = .sig ∨ wt = true ∧ fm = .all := by
          cases fm with
          | nums => exact absurd rfl hf
          | num => exact absurd rfl hfm
          | sig => exact ⟨false, .inl ⟨rfl, rfl⟩⟩
          | all => exact ⟨true, .inr ⟨rfl, rfl⟩⟩
        obtain ⟨s1, s2, s3⟩ := sg hwt
        rw [s1]
        refine iteF ?_
        refine ⟨_, rfl, _, rfl, wa, _, k, .str z, rfl, rfl, .of hw, hat, _, rfl, rfl, z, wt, ?_, okz, szz, fun b H1 eb x1 => ⟨_, rfl, ?_⟩⟩
        · rw [s2]
          rfl
        refine ifB (fun e2 => ?_) (fun e2 => ?_)
        · rw [eb] at e2
          refine ⟨_, rfl, _, _, rfl, rfl, _, rfl, _, rfl, wa, _, k, .str z, rfl, rfl, .of (x1 _ _ hw), hat, Evl.sz_of (by simp), fun p hp => ?_⟩
          refine q _ _ (x1.trans (ex_new hp)) ?_
          rw [s3, if_pos e2]
          exact .tup (.of upd_same) (.cons (.int _) (.cons (.str _) .nil))
        · rw [eb] at e2
          refine ⟨_, rfl, q _ _ x1 ?_⟩
          rw [s3, if_neg (by rw [e2]; exact Bool.false_ne_true)]
          exact .int _
theorem ty_sq {H : Hp} {a : Addr} {xs : List V} (h : SqT K H a xs) : TyX K H (.ref a) (.type "tuple") := by
  rcases h with (h | ⟨o, h⟩) | ⟨o, its, n, h1, h2, _⟩
  · exact .base (.tup h)
  · exact .fTuple h
  · exact .kTuple h1 h2
theorem nil_eqT {H : Hp} {a p : Addr} {l : List Int} {Q : VK} (h : SqT K H a (l.map V.int)) (hp : H p = some (.tup [])) (k : Q (.bl l.isEmpty) H) : rEqD K (.ref a) (.ref p) H Q :=
  ⟨.tuple (l.map PyData.int), .tuple [], .tup h (dps_int l), .tup (.of hp) .nil, shaped_tup (tupDs_int 1 l) (by decide), rfl, by
    rw [eqv_nilT]
    have : (l.map PyData.int).isEmpty = l.isEmpty := by cases l <;> rfl
    rw [this]
    exact k⟩
def sp_pa1 (K : Frg) : Sp := fun vs H Q _ => ∃ (wa : Addr) (ws : List Str) (k : Nat), vs = [.ref wa, .int k, .str (letter .nums)] ∧ H wa = some (.lst (ws.map V.str)) ∧ OkW ws ∧ ws.length ≤ 1000 ∧ k ≤ ws.length ∧
  ∀ v H', Ex H H' → Dp K H' v (paD (partAt .nums ws k)) → Q v H'
theorem ok_pa1 (T : Tx w K mg) : FnOk prg w K mg base CX0 4 (ga K "_law_part_at") (fdOf K (ga K "_law_part_at")) ["_law_words", "_law_at", "_law_part"] (sp_pa1 K) := by
  refine T.f__law_part_at.ok sc__law_part_at (fun vs H Q E h => ?_) (fun cdv A outer s H vs Q E hr h => ?_)
  · obtain ⟨wa, ws, k, rfl, _⟩ := h
    rfl
  · obtain ⟨wa, ws, k, rfl, hw, ok, hz, hk, q⟩ := h
    refine ⟨_, PSs.nox (pss_cons (ps_if (pt_cmpR op_eq (pv 2) pe_str (nomark _)) (pss_cons (ps_set (i := 3) sc__law_part_at.nd rfl (Or.inl rfl) (pe_tup pa_nil))
      (pss_cons (ps_while PassesOwn.never (PW.pt (pw_or (pt_cmpR op_lt (pv 1) (pe_callB call_len_seq (by rfl) T.b_len PySem.boot_len (pa_cons (pv 0) pa_nil)) (nomark _)) (pw_or1 (pt_cmpR (op_eqD hr.units) (pv 3) (pe_tup pa_nil) (nomark _))))) (pss_cons (ps_set (i := 4) sc__law_part_at.nd rfl (Or.inl rfl) (pe_call (ok_pa0 T) (hr.mono (by decide)) (by rfl) T.g__law_part_at T.f__law_part_at.kp T.p__law_part_at .nil pass0 (pa_cons (pv 0) (pa_cons (pv 1) (pa_cons pe_str pa_nil)))))
      (pss_cons (ps_if (pt_val (pe_callB call_isi (by rfl) T.b_isinstance boot_isinstance (pa_cons (pv 4) (pa_cons (pe_bltn (v := .ty "int") (by rfl) T.b_int boot_int rfl) pa_nil)))) (pss_one (ps_ret (pv 4))) pss_nil)
      (pss_one (ps_par (i := 1) (j := 3) (by rfl) sc__law_part_at.nd rfl rfl (by decide) rfl rfl (pa_cons (pe_ix ix_tup (pv 4) pe_int (fun _ _ => rfl)) (pa_cons (pe_op op_catA (pv 3) (pe_tup (pa_cons (pe_ix ix_tup (pv 4) pe_int (fun _ _ => rfl)) pa_nil))) pa_nil)) (by rfl))))))
      (pss_one (ps_ret (pe_tup (pa_cons (pv 1) (pa_cons (pv 3) pa_nil))))))) pss_nil)
      (pss_cons (ps_if (pt_cmpR op_ge (pv 1) (pe_callB call_len_seq (by rfl) T.b_len PySem.boot_len (pa_cons (pv 0) pa_nil)) (nomark _)) (pss_one (ps_ret (pv 1))) pss_nil)
      (pss_cons (ps_if (pt_cmpR op_eq (pv 2) pe_str (nomark _)) (pss_one (ps_ret (pe_ifExp (pt_val (pe_call (ok__law_is_number T) (hr.mono (by decide)) (by rfl) T.g__law_is_number T.f__law_is_number.kp T.p__law_is_number .nil pass0 (pa_cons (pe_ix ix_list (pv 0) (pv 1) (fun _ _ => rfl)) pa_nil))) (pe_tup (pa_cons (pe_op op_add (pv 1) pe_int) (pa_cons (pe_callTy call_int_str (by rfl) T.b_int boot_int (pa_cons (pe_ix ix_list (pv 0) (pv 1) (fun _ _ => rfl)) pa_nil)) pa_nil))) (pv 1)))) pss_nil)
      (pss_one (ps_ret (pe_ifExp (pt_val (pe_call (ok__law_is_signs T) (hr.mono (by decide)) (by rfl) T.g__law_is_signs T.f__law_is_signs.kp T.p__law_is_signs .nil pass0 (pa_cons (pe_ix ix_list (pv 0) (pv 1) (fun _ _ => rfl)) (pa_cons (pe_cmpR op_eq (pv 2) pe_str (nomark _)) pa_nil)))) (pe_tup (pa_cons (pe_op op_add (pv 1) pe_int) (pa_cons (pe_ix ix_list (pv 0) (pv 1) (fun _ _ => rfl)) pa_nil))) (pv 1))))))), ?_⟩
    refine ⟨_, rfl, rfl, _, rfl, ?_⟩
    refine ifB (fun _ => ?_) (fun e => absurd e (by decide +kernel))
    refine ⟨Evl.sz_of (by simp), fun p hp => ?_⟩
    have N0 : NumTo ws k k := fun y hy => by
      rw [Nat.sub_self, List.take_zero] at hy
      cases hy
    let W : Nat → L2.St → Hp → Prop := fun m σ H2 => ∃ (j : Nat) (p : Addr) (o : Option V), m = ws.length - j ∧ k ≤ j ∧ j ≤ ws.length ∧ NumTo ws k j ∧ σ = [some (V.ref wa), some (V.int j), some (V.str (letter .nums)), some (V.ref p), o] ∧
      SqT K H2 p ((((ws.drop k).take (j - k)).map numV).map V.int) ∧ Ex H H2
    refine ⟨W, ⟨_, k, p, _, rfl, Nat.le_refl k, hk, N0, rfl, ?_, ex_new hp⟩, ?_⟩
    · rw [Nat.sub_self, List.take_zero]
      exact .of upd_same
    · intro m σ H2 hW
      obtain ⟨j, p2, o, rfl, hkj, hj, hN, rfl, hp2, x2⟩ := hW
      have hw2 := x2 _ _ hw
      refine ⟨_, rfl, _, rfl, wa, _, rfl, .inl (.of hw2), _, _, rfl, rfl, _, rfl, ?_⟩
      rw [List.length_map]
      refine ifB (fun e => ?_) (fun e => ?_)
      · have hjl : j < ws.length := by
          have := of_decide_eq_true e
          omega
        have hzj : ws[j]? = some ws[j] := List.getElem?_eq_getElem hjl
        generalize ws[j] = z at hzj
        refine ⟨fun σ' H' => ∃ m', m' < ws.length - j ∧ W m' σ' H', fun _ _ h => h, ?_⟩
        refine ⟨_, rfl, _, rfl, wa, ws, j, .num, rfl, hw2, ok, hz, (by decide), fun v H3 x3 dp => ?_⟩
        cases hn : isNum z with
        | false =>
          have ep : partAt .num ws j = .error j := by unfold partAt; simp only [hzj, hn, Bool.false_eq_true, if_false]
          rw [ep] at dp
          cases dp
          refine ⟨_, rfl, _, _, _, _, _, rfl, .ty "int", .base (.int _), kit_ty (by decide +kernel), true, rfl, iteT ?_⟩
          refine ⟨_, rfl, q _ _ (x2.trans x3) ?_⟩
          rw [nums_stop hN hkj hzj hn]
          exact .int _
        | true =>
          have ep : partAt .num ws j = .ok (j + 1, .int (numV z)) := by unfold partAt; simp only [hzj, hn, if_true]
          rw [ep] at dp
          obtain ⟨N2, e2⟩ := numTo_succ hN hkj hzj hn
          cases dp with
          | tup hs ha =>
            cases ha with
            | cons h1 h2 =>
              cases h1
              cases h2 with
              | cons h2 h3 =>
                cases h2
                cases h3
                refine ⟨_, rfl, _, _, _, _, _, rfl, .ty "int", ty_sq hs, kit_ty (by decide +kernel), false, rfl, iteF ?_⟩
                refine ⟨_, rfl, _, _, _, _, rfl, rfl, hs, rfl, _, rfl, _, rfl, _, _, _, _, rfl, rfl, hs, rfl, Evl.sz_of (by simp), fun p4 hp4 => ?_⟩
                refine catA (K := K) (Evl.ex_t (x3.trans (ex_new hp4)) hp2) (.of upd_same) ?_ fun p5 H5 x5 hp5 => ?_
                · rw [List.length_map, List.length_map, List.length_take, List.length_drop]
                  show _ + 1 ≤ _
                  omega
                · refine ⟨_, _, rfl, ws.length - (j + 1), by omega, j + 1, p5, _, rfl, by omega, hjl, N2, rfl, ?_, ((x2.trans x3).trans (ex_new hp4)).trans x5⟩
                  rw [e2, List.map_append, List.map_append]
                  exact hp5
      · have hjl : j = ws.length := by
          have := of_decide_eq_false e
          omega
        subst hjl
        refine ⟨_, rfl, Evl.sz_of (by simp), fun p3 hp3 => nil_eqT (Evl.ex_t (ex_new hp3) hp2) upd_same ⟨_, rfl, ?_⟩⟩
        have x3 := x2.trans (ex_new (o := .tup []) hp3)
        refine ifB (fun e => ?_) (fun e => ?_)
        · have hkl : k = ws.length := by
            have e3 := List.isEmpty_iff.mp e
            rw [List.map_eq_nil_iff, List.take_eq_nil_iff] at e3
            rcases e3 with e3 | e3
            · omega
            · have := congrArg List.length e3
              rw [List.length_drop] at this
              simp at this
              omega
          refine ⟨fun σ' H' => ∃ m', m' < ws.length - ws.length ∧ W m' σ' H', fun _ _ h => h, ?_⟩
          refine ⟨_, rfl, _, rfl, wa, ws, ws.length, .num, rfl, x3 _ _ hw, ok, hz, (by decide), fun v H4 x4 dp => ?_⟩
          have ep : partAt .num ws ws.length = .error ws.length := by unfold partAt; simp only [List.getElem?_eq_none (Nat.le_refl _)]
          rw [ep] at dp
          cases dp
          refine ⟨_, rfl, _, _, _, _, _, rfl, .ty "int", .base (.int _), kit_ty (by decide +kernel), true, rfl, iteT ?_⟩
          refine ⟨_, rfl, q _ _ (x3.trans x4) ?_⟩
          rw [nums_none (by omega), hkl]
          exact .int _
        · have hkl : k < ws.length := by
            refine Nat.lt_of_le_of_ne hk fun h => ?_
            rw [h, Nat.sub_self, List.take_zero] at e
            cases e
          refine ⟨_, rfl, _, rfl, Evl.sz_of (by simp), fun p4 hp4 => ?_⟩
          refine q _ _ (x3.trans (ex_new hp4)) ?_
          rw [nums_done hN (Nat.le_refl _) hkl]
          exact .tup (.of upd_same) (.cons (.int _) (.cons (.tup (Evl.ex_t ((ex_new hp3).trans (ex_new hp4)) hp2) (dps_int _)) .nil))
theorem FnOk_or {CX : CXT} {k : Nat} {f : Addr} {fd : FuncData} {ps : List Str} {sp sp' : Sp} (F : FnOk prg w K mg base CX k f fd ps sp) (G : FnOk prg w K mg base CX k f fd ps sp') : FnOk prg w K mg base CX k f fd ps (fun vs H Q E => sp vs H Q E ∨ sp' vs H Q E) :=
  ⟨fun vs H Q E h => h.elim (F.len vs H Q E) (G.len vs H Q E), fun A outer s H args us vs Q E hr he hb hv h => h.elim (F.run A outer s H args us vs Q E hr he hb hv) (G.run A outer s H args us vs Q E hr he hb hv)⟩
/-- _law_part_at -/
def sp__law_part_at (K : Frg) : Sp := fun vs H Q _ => ∃ (wa : Addr) (ws : List Str) (k : Nat) (fm : Fm), vs = [.ref wa, .int k, .str (letter fm)] ∧ H wa = some (.lst (ws.map V.str)) ∧ OkW ws ∧ ws.length ≤ 1000 ∧ k ≤ ws.length ∧
  ∀ v H', Ex H H' → Dp K H' v (paD (partAt fm ws k)) → Q v H'
theorem ok__law_part_at (T : Tx w K mg) : FnOk prg w K mg base CX0 4 (ga K "_law_part_at") (fdOf K (ga K "_law_part_at")) ["_law_words", "_law_at", "_law_part"] (sp__law_part_at K) := by
  refine (FnOk_or ((ok_pa0 T).mono (by decide)) (ok_pa1 T)).imp fun vs H Q E h => ?_
  obtain ⟨wa, ws, k, fm, rfl, hw, ok, hz, hk, q⟩ := h
  by_cases hf : fm = .nums
  · subst hf
    exact .inr ⟨wa, ws, k, rfl, hw, ok, hz, hk, q⟩
  · exact .inl ⟨wa, ws, k, fm, rfl, hw, ok, hz, hf, q⟩
end
end Om
end PartB2
section PartA7
set_option Elab.async false
set_option linter.all false
set_option maxRecDepth 100000
set_option maxHeartbeats 400000
namespace Om
open PySem PySem.Spec PyProof.Rows L2 He TL
def fmS : Fm → Str
  | .num => "number"
  | .sig => "signs"
  | .all => "all"
  | .nums => "numbers"
section
variable {w : World} {K : Frg} {mg : Str → Option Value} {base : Heap}
/-- Line.take_part -/
def sp_Line_take_part (K : Frg) : Sp := fun vs H Q E => ∃ (a : Addr) (fm : Fm) (n : Int) (k : Nat) (ws : List Str) (dx wa : Addr), vs = [.ref a, .str (fmS fm)] ∧ LnX K H a n ws k dx wa ∧ OkW ws ∧ ws.length ≤ 1000 ∧
  (∀ k' d, partAt fm ws k = .ok (k', d) → ∀ v H', Ky [a] H H' → LnX K H' a n ws k' dx wa → Dp K H' v d → Q v H') ∧ (∀ e, partAt fm ws k = .error e → Fails K [a] H n e E)
theorem sc_Line_take_part : FnScope ["self", "form", "found"] ["self", "form"] (defScope s_Line_take_part) := ⟨rfl, rfl, rfl, by decide +kernel, rfl, by decide +kernel, by decide +kernel⟩
theorem ok_Line_take_part (T : Tx w K mg) : FnOk prg w K mg base (L2.CX prg w) 7 (ma K (ga K "Line") "take_part") (fdOf K (ma K (ga K "Line") "take_part")) ["self", "form"] (sp_Line_take_part K) := by
  refine T.f_Line_take_part.ok sc_Line_take_part (fun vs H Q E h => ?_) (fun cdv A outer s H vs Q E hr h => ?_)
  · obtain ⟨a, fm, n, k, ws, dx, wa, rfl, _⟩ := h
    rfl
  · obtain ⟨a, fm, n, k, ws, dx, wa, rfl, hl, ok, hz, q, f⟩ := h
    refine ⟨_, (pss_cons (ps_if (pt_cmpR op_eq (pv 1) pe_str (nomark _)) (pss_one (ps_ret (SlX.pe_methSl0 (pv 0) T.ln T.m_Line_take_number ((ok_Line_take_number T).raw T.p_Line_take_number .nil) (hr.mono (by decide)) (passes_call (takes_of rfl rfl rfl rfl) fun _ _ _ _ z => z)))) pss_nil)
      (pss_cons (ps_if (pt_cmpR op_eq (pv 1) pe_str (nomark _)) (pss_one (ps_ret (SlX.pe_methSl (pv 0) T.ln T.m_Line_take_signs ((ok_Line_take_signs T).raw T.p_Line_take_signs .nil) (hr.mono (by decide)) (passes_call (takes_of rfl rfl rfl rfl) fun _ _ _ _ z => z) (pa_cons (pe_op op_add_str (pe_glob (v := .str _) (by rfl) T.c_LAND.choose_spec ⟨_, rfl⟩) (pe_glob (v := .str _) (by rfl) T.c_LETTERS.choose_spec ⟨_, rfl⟩)) pa_nil)))) pss_nil)
      (pss_cons (ps_if (pt_cmpR op_eq (pv 1) pe_str (nomark _)) (pss_one (ps_ret (SlX.pe_methSl (pv 0) T.ln T.m_Line_take_signs ((ok_Line_take_signs T).raw T.p_Line_take_signs .nil) (hr.mono (by decide)) (passes_call (takes_of rfl rfl rfl rfl) fun _ _ _ _ z => z) (pa_cons (pe_op op_add_str (pe_op op_add_str (pe_glob (v := .str _) (by rfl) T.c_LAND.choose_spec ⟨_, rfl⟩) (pe_glob (v := .str _) (by rfl) T.c_LETTERS.choose_spec ⟨_, rfl⟩)) (pe_glob (v := .str _) (by rfl) T.c_WATER.choose_spec ⟨_, rfl⟩)) pa_nil)))) pss_nil)
      (pss_cons (ps_set (i := 2) sc_Line_take_part.nd rfl (Or.inl rfl) (pe_tup (pa_cons (SlX.pe_methSl0 (pv 0) T.ln T.m_Line_take_number ((ok_Line_take_number T).raw T.p_Line_take_number .nil) (hr.mono (by decide)) (passes_call (takes_of rfl rfl rfl rfl) fun _ _ _ _ z => z)) pa_nil)))
      (pss_cons (ps_while (passes_of rfl) (pt_not (pt_val (SlX.pe_methSl0 (pv 0) T.ln T.m_Line_is_over ((ok_Line_is_over T).raw T.p_Line_is_over .nil) (hr.mono (by decide)) pass0))) (pss_one (ps_set (i := 2) sc_Line_take_part.nd rfl (Or.inl rfl) (pe_op op_catA (pv 2) (pe_tup (pa_cons (SlX.pe_methSl0 (pv 0) T.ln T.m_Line_take_number ((ok_Line_take_number T).raw T.p_Line_take_number .nil) (hr.mono (by decide)) (passes_call (takes_of rfl rfl rfl rfl) fun _ _ _ _ z => z)) pa_nil))))))
      (pss_one (ps_ret (pv 2)))))))), ?_⟩
    obtain ⟨hdx, hwa, hwd, hs, hw⟩ := hl.slt
    cases fm with
    | num =>
      refine ⟨_, rfl, rfl, _, rfl, ?_⟩
      refine ifB (fun _ => ?_) (fun e => absurd e (by decide +kernel))
      refine ⟨_, rfl, a, dx, _, rfl, hs, a, n, k, ws, dx, wa, rfl, hl, ok, fun z hz' hn H' k' l' => q (k + 1) (.int (numV z)) (by unfold partAt; simp only [hz', hn, if_true]) _ H' k' l' (.int _), fun h => f k ?_⟩
      unfold partAt
      cases e : ws[k]? with
      | none => rfl
      | some z => simp only [h z e, Bool.false_eq_true, if_false]
    | sig =>
      refine ⟨_, rfl, rfl, _, rfl, ?_⟩
      refine ifB (fun e => absurd e (by decide +kernel)) (fun _ => ?_)
      refine ⟨_, rfl, rfl, _, rfl, ?_⟩
      refine ifB (fun _ => ?_) (fun e => absurd e (by decide +kernel))
      refine ⟨_, rfl, a, dx, _, rfl, hs, _, _, rfl, rfl, by decide +kernel, a, _, n, k, ws, dx, wa, rfl, hl, ok, fun z hz' hn H' k' l' => ?_, fun h => f k ?_⟩
      · rw [e_knS] at hn
        exact q (k + 1) (.str z) (by unfold partAt; simp only [hz', hn, if_true]) _ H' k' l' (.str _)
      · rw [e_knS] at h
        unfold partAt
        cases e : ws[k]? with
        | none => rfl
        | some z => simp only [h z e, Bool.false_eq_true, if_false]
    | all =>
      refine ⟨_, rfl, rfl, _, rfl, ?_⟩
      refine ifB (fun e => absurd e (by decide +kernel)) (fun _ => ?_)
      refine ⟨_, rfl, rfl, _, rfl, ?_⟩
      refine ifB (fun e => absurd e (by decide +kernel)) (fun _ => ?_)
      refine ⟨_, rfl, rfl, _, rfl, ?_⟩
      refine ifB (fun _ => ?_) (fun e => absurd e (by decide +kernel))
      refine ⟨_, rfl, a, dx, _, rfl, hs, _, _, rfl, rfl, by decide +kernel, _, _, rfl, rfl, by decide +kernel, a, _, n, k, ws, dx, wa, rfl, hl, ok, fun z hz' hn H' k' l' => ?_, fun h => f k ?_⟩
      · rw [e_knA] at hn
        exact q (k + 1) (.str z) (by unfold partAt; simp only [hz', hn, if_true]) _ H' k' l' (.str _)
      · rw [e_knA] at h
        unfold partAt
        cases e : ws[k]? with
        | none => rfl
        | some z => simp only [h z e, Bool.false_eq_true, if_false]
    | nums =>
      refine ⟨_, rfl, rfl, _, rfl, ?_⟩
      refine ifB (fun e => absurd e (by decide +kernel)) (fun _ => ?_)
      refine ⟨_, rfl, rfl, _, rfl, ?_⟩
      refine ifB (fun e => absurd e (by decide +kernel)) (fun _ => ?_)
      refine ⟨_, rfl, rfl, _, rfl, ?_⟩
      refine ifB (fun e => absurd e (by decide +kernel)) (fun _ => ?_)
      have N0 : NumTo ws k k := fun y hy => by
        rw [Nat.sub_self, List.take_zero] at hy
        cases hy
      refine ⟨_, rfl, a, dx, _, rfl, hs, a, n, k, ws, dx, wa, rfl, hl, ok, fun z hz' hn H1 k1 l1 => ⟨Evl.sz_of (by simp), fun p hp => ?_⟩, fun h => f k ?_⟩
      · obtain ⟨N1, e1⟩ := numTo_succ N0 (Nat.le_refl k) hz' hn
        have hk : k < ws.length := (List.getElem?_eq_some_iff.mp hz').1
        let W : Nat → L2.St → Hp → Prop := fun m σ H2 => ∃ (j : Nat) (p : Addr), m = ws.length - j ∧ k < j ∧ j ≤ ws.length ∧ NumTo ws k j ∧ σ = [some (V.ref a), some (V.str (fmS .nums)), some (V.ref p)] ∧ SqT K H2 p ((((ws.drop k).take (j - k)).map numV).map V.int) ∧ Ky [a] H H2 ∧ LnX K H2 a n ws j dx wa
        refine ⟨W, ⟨_, k + 1, p, rfl, Nat.lt_succ_self k, hk, N1, rfl, ?_, k1.trans (.new hp), l1.ex (ex_new hp)⟩, ?_⟩
        · rw [e1, Nat.sub_self, List.take_zero]
          exact .of upd_same
        · intro m σ H2 hW
          obtain ⟨j, p2, rfl, hkj, hj, hN, rfl, hp2, kk, ll⟩ := hW
          obtain ⟨hdx2, hwa2, hwd2, hs2, hw2⟩ := ll.slt
          refine ⟨_, rfl, a, dx, _, rfl, hs2, a, n, j, ws, rfl, ll.w, _, rfl, ?_⟩
          refine ifB (fun e => ?_) (fun e => ?_)
          · have hjl : j < ws.length := by
              have e2 : decide ((ws.length : Int) ≤ j) = false := by simpa using e
              have := of_decide_eq_false e2
              omega
            refine ⟨fun σ' H' => ∃ m', m' < ws.length - j ∧ W m' σ' H', fun _ _ h => h, ?_⟩
            refine ⟨_, rfl, _, rfl, a, dx, _, rfl, hs2, a, n, j, ws, dx, wa, rfl, ll, ok, fun z2 hz2 hn2 H3 k3 l3 => ⟨Evl.sz_of (by simp), fun p3 hp3 => ?_⟩, fun h => ?_⟩
            · obtain ⟨N2, e2⟩ := numTo_succ hN (Nat.le_of_lt hkj) hz2 hn2
              refine catA (K := K) (Evl.ex_t (ex_new hp3) (k3.2.sq hp2)) (.of upd_same) ?_ fun p4 H4 x4 hp4 => ?_
              · rw [List.length_map, List.length_map, List.length_take, List.length_drop]
                show _ + 1 ≤ _
                omega
              · refine ⟨ws.length - (j + 1), by omega, j + 1, p4, rfl, by omega, hjl, N2, rfl, ?_, ((kk.trans k3).trans (.new hp3)).trans (.of x4), (l3.ex (ex_new hp3)).ex x4⟩
                rw [e2, List.map_append, List.map_append]
                exact hp4
            · have hz2 : ws[j]? = some ws[j] := List.getElem?_eq_getElem hjl
              exact (f j (nums_stop hN (Nat.le_of_lt hkj) hz2 (h _ hz2))).go kk
          · have hjl : ws.length ≤ j := by
              have e2 : decide ((ws.length : Int) ≤ j) = true := by simpa using e
              have := of_decide_eq_true e2
              omega
            have ej : j = ws.length := by omega
            refine ⟨_, rfl, q _ _ (nums_done hN hjl hk) _ H2 kk (ej ▸ ll) (.tup hp2 (dps_int _))⟩
      · cases e : ws[k]? with
        | none => exact nums_none (List.getElem?_eq_none_iff.mp e)
        | some z => exact nums_stop N0 (Nat.le_refl k) e (h z e)
theorem Tx.form (T : Tx w K mg) {h : Str} {fs : List Fm} (e : formsOf h = some fs) : ∃ b, KDct K w (ga K "FORMS") h (.ref b) ∧ ∀ H, SqT K H b (fs.map fun f => V.str (fmS f)) := by
  obtain ⟨es, n, D⟩ := T.forms
  have go : ∀ {z : Str} {b : Addr} {l : List V}, PySem.W.nsIn K (ga K "FORMS") z = some (some (.ref b)) → tupAt K b l = true → h = z → fs.map (fun f => V.str (fmS f)) = l → ∃ b, KDct K w (ga K "FORMS") h (.ref b) ∧ ∀ H, SqT K H b (fs.map fun f => V.str (fmS f)) := fun {z b l} h1 h2 h3 h4 => by
    subst h3
    rw [h4]
    exact ⟨b, ⟨es, n, _, D.at_, D.lit, h1, rfl⟩, fun H => tupAt_ok h2 H⟩
  unfold formsOf at e
  split at e; · cases e; exact go T.fr_turn T.ft_turn ‹_› rfl
  split at e; · cases e; exact go T.fr_walk T.ft_walk ‹_› rfl
  split at e; · cases e; exact go T.fr_until T.ft_until ‹_› rfl
  split at e; · cases e; exact go T.fr_toward T.ft_toward ‹_› rfl
  split at e; · cases e; exact go T.fr_beside T.ft_beside ‹_› rfl
  split at e; · cases e; exact go T.fr_near T.ft_near ‹_› rfl
  split at e; · cases e; exact go T.fr_shore T.ft_shore ‹_› rfl
  cases e
theorem tupD_part {ws : List Str} {fm : Fm} {k k' : Nat} {d : PyData} (ok : OkW ws) (h : partAt fm ws k = .ok (k', d)) : tupD 1 d = true := by
  cases fm with
  | num =>
    unfold partAt at h
    cases e : ws[k]? with
    | none => simp only [e] at h; cases h
    | some z =>
      simp only [e] at h
      split at h
      · cases h; unfold tupD; rfl
      · cases h
  | sig =>
    unfold partAt at h
    cases e : ws[k]? with
    | none => simp only [e] at h; cases h
    | some z =>
      simp only [e] at h
      split at h
      · cases h; unfold tupD; exact (ok _ (List.mem_of_getElem? e)).1
      · cases h
  | all =>
    unfold partAt at h
    cases e : ws[k]? with
    | none => simp only [e] at h; cases h
    | some z =>
      simp only [e] at h
      split at h
      · cases h; unfold tupD; exact (ok _ (List.mem_of_getElem? e)).1
      · cases h
  | nums =>
    unfold partAt at h
    simp only at h
    split at h
    · split at h
      · cases h; unfold tupD; exact tupDs_int 0 _
      · cases h
    · cases h
/-- Line.take_instruction -/
def sp_Line_take_instruction (K : Frg) : Sp := fun vs H Q E => ∃ (a : Addr) (n : Int) (ws : List Str) (dx wa : Addr), vs = [.ref a] ∧ LnX K H a n ws 0 dx wa ∧ OkW ws ∧ ws.length ≤ 1000 ∧
  (∀ ds, rowAt ws = .ok ds → ∀ v H', Ky [a] H H' → Dp K H' v (.tuple ds) → Q v H') ∧ (∀ e, rowAt ws = .error e → Fails K [a] H n e E)
theorem sc_Line_take_instruction : FnScope ["self", "word", "found", "form"] ["self"] (defScope s_Line_take_instruction) := ⟨rfl, rfl, rfl, by decide +kernel, rfl, by decide +kernel, by decide +kernel⟩
theorem ok_Line_take_instruction (T : Tx w K mg) : FnOk prg w K mg base (L2.CX prg w) 8 (ma K (ga K "Line") "take_instruction") (fdOf K (ma K (ga K "Line") "take_instruction")) ["self"] (sp_Line_take_instruction K) := by
  refine T.f_Line_take_instruction.ok sc_Line_take_instruction (fun vs H Q E h => ?_) (fun cdv A outer s H vs Q E hr h => ?_)
  · obtain ⟨a, n, ws, dx, wa, rfl, _⟩ := h
    rfl
  · obtain ⟨a, n, ws, dx, wa, rfl, hl, ok, hz, q, f⟩ := h
    refine ⟨_, (pss_cons (ps_set (i := 1) sc_Line_take_instruction.nd rfl (Or.inl rfl) (SlX.pe_methSl (pv 0) T.ln T.m_Line_take_word ((ok_Line_take_word T).raw T.p_Line_take_word .nil) (hr.mono (by decide)) (passes_call (takes_of rfl rfl rfl rfl) fun _ _ _ _ z => z) (pa_cons (pe_glob (v := .ref _) (by rfl) T.g_HEADS rfl) pa_nil)))
      (pss_cons (ps_set (i := 2) sc_Line_take_instruction.nd rfl (Or.inl rfl) (pe_tup (pa_cons (pv 1) pa_nil)))
      (pss_cons (ps_for (passes_of rfl) rfl (pi_tup (pe_ix ix_kdict (pe_glob (v := .ref _) (by rfl) T.g_FORMS rfl) (pv 1) (fun _ _ => rfl))) (pg_name (i := 3) sc_Line_take_instruction.nd rfl (Or.inl rfl)) (pss_one (ps_set (i := 2) sc_Line_take_instruction.nd rfl (Or.inl rfl) (pe_op op_catA (pv 2) (pe_tup (pa_cons (SlX.pe_methSl (pv 0) T.ln T.m_Line_take_part ((ok_Line_take_part T).raw T.p_Line_take_part .nil) (hr.mono (by decide)) (passes_call (takes_of rfl rfl rfl rfl) fun _ _ _ _ z => z) (pa_cons (pv 3) pa_nil)) pa_nil))))))
      (pss_cons (ps_expr (SlX.pe_methSl0 (pv 0) T.ln T.m_Line_end ((ok_Line_end T).raw T.p_Line_end .nil) (hr.mono (by decide)) (passes_call (takes_of rfl rfl rfl rfl) fun _ _ _ _ z => z)))
      (pss_one (ps_ret (pv 2))))))), ?_⟩
    obtain ⟨hdx, hwa, hwd, hs, hw⟩ := hl.slt
    have sqH : ∀ H', SqT K H' (ga K "HEADS") (heads.map V.str) := fun H' => tupAt_ok T.t_HEADS H'
    refine ⟨_, rfl, a, dx, _, rfl, hs, a, _, n, 0, ws, heads, dx, wa, rfl, hl, sqH H, fun h0 hz0 hm H1 k1 l1 => ⟨_, rfl, Evl.sz_of (by simp), fun p hp => ?_⟩, fun hb => f 0 ?_⟩
    · obtain ⟨fs, ef⟩ := (heads_forms h0).mp hm
      obtain ⟨b, hkd, hsb⟩ := T.form ef
      obtain ⟨rest, hws⟩ : ∃ rest, ws = h0 :: rest := by
        cases ws with
        | nil => cases hz0
        | cons x r => cases hz0; exact ⟨r, rfl⟩
      have er : rowAt ws = match partsAt fs ws 1 [.str h0] with | .error e => .error e | .ok (e, ds) => if e = ws.length then .ok ds else .error e := by
        rw [hws]
        unfold rowAt
        simp only [ef]
        all_goals (cases partsAt fs (h0 :: rest) 1 [PyData.str h0] <;> rfl)
      have okh : PyData.strOk h0 = true := (ok h0 (by rw [hws]; exact .head _)).1
      have flen : fs.length ≤ 3 := by
        unfold formsOf at ef
        repeat (split at ef; · cases ef; decide)
        cases ef
      refine ⟨_, rfl, _, _, _, rfl, rfl, hkd, b, rfl, ⟨_, hsb _⟩, for_tup (xs := fs.map fun f => V.str (fmS f)) (fun i σ H' => ∃ (k : Nat) (ds : List PyData) (p : Addr) (xs : List V) (o : Option V), partsAt (fs.take i) ws 1 [.str h0] = .ok (k, ds) ∧
        σ = [some (.ref a), some (.str h0), some (.ref p), o] ∧ SqT K H' p xs ∧ DpAll K H' xs ds ∧ tupDs 1 ds = true ∧ ds.length = i + 1 ∧ Ky [a] H H' ∧ LnX K H' a n ws k dx wa ∧ k ≤ ws.length) ?_ (fun i σ H' _ _ => hsb H') ?_ ?_⟩
      · exact ⟨1, [.str h0], p, _, none, rfl, rfl, .of upd_same, .cons (.str _) .nil, by unfold tupDs; unfold tupD; rw [okh]; unfold tupDs; rfl, rfl, k1.trans (.new hp), l1.ex (ex_new hp), by rw [hws]; simp⟩
      · rintro i x σ H' hx ⟨k, ds, p2, xs, o, e1, rfl, hp2, hd, ht, hlen, kk, ll, kle⟩
        rw [List.getElem?_map, Option.map_eq_some_iff] at hx
        obtain ⟨fm, hfm, rfl⟩ := hx
        obtain ⟨hdx2, hwa2, hwd2, hs2, hw2⟩ := ll.slt
        have hi : i < fs.length := (List.getElem?_eq_some_iff.mp hfm).1
        refine ⟨_, rfl, _, rfl, a, dx, _, rfl, hs2, _, rfl, a, fm, n, k, ws, dx, wa, rfl, ll, ok, hz, fun k' d hpa v H3 k3 l3 d3 => ⟨Evl.sz_of (by simp), fun p3 hp3 => ?_⟩, fun e hpa => ?_⟩
        · have td := tupD_part ok hpa
          refine catA (K := K) (Evl.ex_t (ex_new hp3) (k3.2.sq hp2)) (.of upd_same) ?_ fun p4 H4 x4 hp4 => ?_
          · rw [dps_len hd]
            show _ + 1 ≤ _
            omega
          · have t5 : Tk H3 H4 := (Tk.of (ex_new hp3)).trans (Tk.of x4)
            exact ⟨k', ds ++ [d], p4, _, _, parts_step e1 hfm hpa, rfl, hp4, dps_app (dps_tk (k3.2.trans t5) ht hd) (.cons (dp_tk t5 td d3) .nil), tupDs_app ht (tupD1 td), by rw [List.length_append, hlen]; rfl, ((kk.trans k3).trans (.new hp3)).trans (.of x4), (l3.ex (ex_new hp3)).ex x4, partAt_le hpa⟩
        · refine (f e ?_).go kk
          rw [er, parts_bad e1 hfm hpa]
      · rintro σ H' ⟨k, ds, p2, xs, o, e1, rfl, hp2, hd, ht, hlen, kk, ll, kle⟩
        rw [List.length_map, List.take_length] at e1
        obtain ⟨hdx2, hwa2, hwd2, hs2, hw2⟩ := ll.slt
        refine ⟨_, rfl, a, dx, _, rfl, hs2, a, n, k, ws, rfl, ll.w, fun hk => ⟨_, rfl, q ds ?_ _ H' kk (.tup hp2 hd)⟩, fun hk => ((f k ?_).go kk).less (by simp)⟩
        · rw [er, e1]
          show (if k = ws.length then _ else _) = _
          rw [if_pos (by omega)]
        · rw [er, e1]
          show (if k = ws.length then _ else _) = _
          rw [if_neg (by omega)]
    · cases ws with
      | nil => rfl
      | cons x r =>
        have := hb x rfl
        unfold rowAt
        cases e : formsOf x with
        | none => simp only [e]
        | some fs => exact absurd ((heads_forms x).mpr ⟨fs, e⟩) this
end
end Om
end PartA7
section PartB3
set_option Elab.async false
set_option linter.all false
set_option maxRecDepth 100000
set_option maxHeartbeats 400000
namespace Om
open PySem PySem.Spec PyProof.Rows L2 He TL
def raD (r : Except Nat (List PyData)) : PyData := match r with
  | .ok ds => .tuple ds
  | .error e => .int e
section
variable {w : World} {K : Frg} {mg : Str → Option Value} {base : Heap}
/-- _law_row_at -/
def sp__law_row_at (K : Frg) : Sp := fun vs H Q _ => ∃ (wa : Addr) (ws : List Str), vs = [.ref wa] ∧ H wa = some (.lst (ws.map V.str)) ∧ OkW ws ∧ ws.length ≤ 1000 ∧ ws ≠ [] ∧
  ∀ v H', Ex H H' → Dp K H' v (raD (rowAt ws)) → Q v H'
theorem sc__law_row_at : FnScope ["_law_words", "_law_found", "_law_end", "_law_part", "_law_one_here"] ["_law_words"] (defScope s__law_row_at) := ⟨rfl, rfl, rfl, by decide +kernel, rfl, by decide +kernel, by decide +kernel⟩
theorem ok__law_row_at (T : Tx w K mg) : FnOk prg w K mg base CX0 5 (ga K "_law_row_at") (fdOf K (ga K "_law_row_at")) ["_law_words"] (sp__law_row_at K) := by
  refine T.f__law_row_at.ok sc__law_row_at (fun vs H Q E h => ?_) (fun cdv A outer s H vs Q E hr h => ?_)
  · obtain ⟨wa, ws, rfl, _⟩ := h
    rfl
  · obtain ⟨wa, ws, rfl, hw, ok, hz, hne, q⟩ := h
    refine ⟨_, PSs.nox (pss_cons (ps_if (pt_cmpR op_isN (pe_call (ok__law_parts T) (hr.mono (by decide)) (by rfl) T.g__law_parts T.f__law_parts.kp T.p__law_parts .nil pass0 (pa_cons (pe_ix ix_list (pv 0) pe_int (fun _ _ => rfl)) pa_nil)) pe_non (nomark _)) (pss_one (ps_ret pe_int)) pss_nil)
      (pss_cons (ps_par (i := 1) (j := 2) (by rfl) sc__law_row_at.nd rfl rfl (by decide) rfl rfl (pa_cons (pe_tup (pa_cons (pe_ix ix_list (pv 0) pe_int (fun _ _ => rfl)) pa_nil)) (pa_cons pe_int pa_nil)) (by rfl))
      (pss_cons (ps_for PassesOwn.never rfl (pi_str (pe_call (ok__law_parts T) (hr.mono (by decide)) (by rfl) T.g__law_parts T.f__law_parts.kp T.p__law_parts .nil pass0 (pa_cons (pe_ix ix_list (pv 0) pe_int (fun _ _ => rfl)) pa_nil))) (pg_name (i := 3) sc__law_row_at.nd rfl (Or.inl rfl)) (pss_cons (ps_set (i := 4) sc__law_row_at.nd rfl (Or.inl rfl) (pe_call (ok__law_part_at T) (hr.mono (by decide)) (by rfl) T.g__law_part_at T.f__law_part_at.kp T.p__law_part_at .nil pass0 (pa_cons (pv 0) (pa_cons (pv 2) (pa_cons (pv 3) pa_nil)))))
      (pss_cons (ps_if (pt_val (pe_callB call_isi (by rfl) T.b_isinstance boot_isinstance (pa_cons (pv 4) (pa_cons (pe_bltn (v := .ty "int") (by rfl) T.b_int boot_int rfl) pa_nil)))) (pss_one (ps_ret (pv 4))) pss_nil)
      (pss_one (ps_par (i := 2) (j := 1) (by rfl) sc__law_row_at.nd rfl rfl (by decide) rfl rfl (pa_cons (pe_ix ix_tup (pv 4) pe_int (fun _ _ => rfl)) (pa_cons (pe_op op_catA (pv 1) (pe_tup (pa_cons (pe_ix ix_tup (pv 4) pe_int (fun _ _ => rfl)) pa_nil))) pa_nil)) (by rfl))))))
      (pss_one (ps_ret (pe_ifExp (pt_cmpR op_eq (pv 2) (pe_callB call_len_seq (by rfl) T.b_len PySem.boot_len (pa_cons (pv 0) pa_nil)) (nomark _)) (pv 1) (pv 2))))))), ?_⟩
    obtain ⟨h0, rest, hws⟩ : ∃ h0 rest, ws = h0 :: rest := by
      cases ws with
      | nil => exact absurd rfl hne
      | cons a r => exact ⟨a, r, rfl⟩
    have h00 : atI (ws.map V.str) 0 = some (.str h0) := atI_nat (j := 0) (by rw [hws]; rfl)
    refine ⟨_, rfl, wa, _, 0, _, rfl, rfl, .of hw, h00, h0, rfl, fun ef H1 x1 => ?_, fun fs ef H1 x1 => ?_⟩
    · refine ⟨rfl, _, rfl, ifB (fun _ => q _ _ x1 ?_) (fun e => absurd e (by decide))⟩
      have er : rowAt ws = .error 0 := by
        rw [hws]
        unfold rowAt
        simp only [ef]
      rw [er]
      exact .int _
    · refine ⟨rfl, _, rfl, ifB (fun e => absurd (of_decide_eq_true e) (fun h => by cases h)) (fun _ => ?_)⟩
      have er : rowAt ws = match partsAt fs ws 1 [.str h0] with | .error e => .error e | .ok (e, ds) => if e = ws.length then .ok ds else .error e := by
        rw [hws]
        unfold rowAt
        simp only [ef]
        all_goals (cases partsAt fs (h0 :: rest) 1 [PyData.str h0] <;> rfl)
      have flen : fs.length ≤ 3 := by
        unfold formsOf at ef
        repeat (split at ef; · cases ef; decide)
        cases ef
      refine ⟨_, rfl, wa, _, 0, _, rfl, rfl, .of (x1 _ _ hw), h00, Evl.sz_of (by simp), fun p hp => ⟨_, _, rfl, ?_⟩⟩
      have x2 := x1.trans (ex_new (o := .tup [.str h0]) hp)
      have hp1 : SqT K (upd H1 p (.tup [.str h0])) p [.str h0] := .of upd_same
      generalize upd H1 p (.tup [.str h0]) = H2 at x2 hp1 ⊢
      refine ⟨_, rfl, wa, _, 0, _, rfl, rfl, .of (x2 _ _ hw), h00, h0, rfl, fun ef' => absurd (ef.symm.trans ef') (fun h => by cases h), fun fs' ef' H3 x3 => ?_⟩
      rw [ef] at ef'
      cases ef'
      refine ⟨_, rfl, for_it walk_str (fun i σ H' => ∃ (k : Nat) (ds : List PyData) (p : Addr) (xs : List V) (o o' : Option V), partsAt (fs.take i) ws 1 [.str h0] = .ok (k, ds) ∧
        σ = [some (.ref wa), some (.ref p), some (.int k), o, o'] ∧ SqT K H' p xs ∧ DpAll K H' xs ds ∧ ds.length = i + 1 ∧ Ex H H' ∧ k ≤ ws.length) ?_ (fun _ _ _ _ _ => trivial) ?_ ?_⟩
      · exact ⟨1, [.str h0], p, _, _, _, rfl, rfl, Evl.ex_t x3 hp1, .cons (.str _) .nil, rfl, x2.trans x3, by rw [hws]; simp⟩
      · rintro i x σ H' H4 hi ⟨k, ds, p2, xs, o, o', e1, rfl, hp2, hd, hlen, x4, kle⟩ ⟨rfl, c, hc, rfl⟩
        have hc' : (fs.map ltr)[i]? = some c := by rw [← hc]; simp [ltrs]
        rw [List.getElem?_map, Option.map_eq_some_iff] at hc'
        obtain ⟨fm, hfm, rfl⟩ := hc'
        have hi' : i < fs.length := (List.getElem?_eq_some_iff.mp hfm).1
        refine ⟨_, rfl, _, rfl, _, rfl, wa, ws, k, fm, rfl, x4 _ _ hw, ok, hz, kle, fun v H5 x5 dp => ?_⟩
        cases hpa : partAt fm ws k with
        | error e =>
          rw [hpa] at dp
          cases dp
          refine ⟨_, rfl, _, _, _, _, _, rfl, .ty "int", .base (.int _), kit_ty (by decide +kernel), true, rfl, iteT ?_⟩
          refine ⟨_, rfl, q _ _ (x4.trans x5) ?_⟩
          rw [er, parts_bad e1 hfm hpa]
          exact .int _
        | ok kd =>
          obtain ⟨k', d⟩ := kd
          rw [hpa] at dp
          cases dp with
          | tup hs ha =>
            cases ha with
            | cons h1 h2 =>
              cases h1
              cases h2 with
              | cons h2 h3 =>
                cases h3
                refine ⟨_, rfl, _, _, _, _, _, rfl, .ty "int", ty_sq hs, kit_ty (by decide +kernel), false, rfl, iteF ?_⟩
                refine ⟨_, rfl, _, _, _, _, rfl, rfl, hs, rfl, _, rfl, _, rfl, _, _, _, _, rfl, rfl, hs, rfl, Evl.sz_of (by simp), fun p4 hp4 => ?_⟩
                rename_i v0
                have x6 := ex_new (o := .tup [v0]) hp4
                refine catA (K := K) (Evl.ex_t (x5.trans x6) hp2) (.of upd_same) ?_ fun p5 H6 x7 hp5 => ?_
                · rw [dps_len hd]
                  show _ + 1 ≤ _
                  omega
                · exact ⟨_, _, rfl, k', ds ++ [d], p5, _, _, _, parts_step e1 hfm hpa, rfl, hp5, dps_app (dps_ex ((x5.trans x6).trans x7) hd) (.cons (dp_ex (x6.trans x7) h2) .nil), by rw [List.length_append, hlen]; rfl, ((x4.trans x5).trans x6).trans x7, partAt_le hpa⟩
      · rintro σ H' ⟨k, ds, p2, xs, o, o', e1, rfl, hp2, hd, hlen, x4, kle⟩
        have e1 : partsAt fs ws 1 [.str h0] = .ok (k, ds) := by
          have : (ltrs fs).cps.size = fs.length := by simp [ltrs]
          rw [this, List.take_length] at e1
          exact e1
        refine ⟨_, rfl, _, rfl, wa, _, rfl, .inl (.of (x4 _ _ hw)), rfl, _, rfl, ?_⟩
        rw [List.length_map]
        refine ifB (fun e => ⟨_, rfl, q _ _ x4 ?_⟩) (fun e => ⟨_, rfl, q _ _ x4 ?_⟩)
        · have e2 := of_decide_eq_true e
          have e3 : k = ws.length := by
            injection e2 with e2
            omega
          rw [er, e1]
          show Dp K H' _ (raD (if k = ws.length then _ else _))
          rw [if_pos e3]
          exact .tup hp2 hd
        · have e2 := of_decide_eq_false e
          have e3 : k ≠ ws.length := fun h => e2 (by rw [h])
          rw [er, e1]
          show Dp K H' _ (raD (if k = ws.length then _ else _))
          rw [if_neg e3]
          exact .int _
end
end Om
end PartB3
section PartPL4
set_option Elab.async false
set_option linter.all false
/-! Plain lemmas on split. -/
namespace Om
open PySem L2 TL
theorem spl_ne (S : List Nat) : ∀ (k : Nat) (acc l : List Nat), spl S k acc l ≠ []
  | k, acc, [] => by rw [spl_nil]; simp
  | 0, acc, c :: r => by
    show (if pre S (c :: r) = true then acc :: spl S (S.length - 1) [] r else spl S 0 (acc ++ [c]) r) ≠ []
    split
    · simp
    · exact spl_ne S 0 (acc ++ [c]) r
  | k + 1, acc, _ :: r => spl_ne S k acc r
theorem split_ne {y : Str} (hy : tl y ≠ []) (h : y.cps.all (· < 256) = true) (x : Str) : Txt.split x y ≠ [] := fun e => by
  have q := split_spl x y hy (kind_ok h)
  rw [e] at q
  exact spl_ne _ _ _ _ q.symm
theorem islandAt_cons (r0 : List Str) (rr : List (List Str)) : islandAt (r0 :: rr) = if r0 = [("island" : Str)] then islL rr 1 [] else .error (0, if r0.headD Str.empty = "island" then 1 else 0) := rfl
theorem islL_nil (k : Nat) (acc : List Str) : islL [] k acc = .error (k, 0) := rfl
theorem islL_cons (w : Str) (wr : List Str) (r : List (List Str)) (k : Nat) (acc : List Str) : islL ((w :: wr) :: r) k acc =
    if w = "from" ∧ acc ≠ [] then .ok acc else if badRow w acc = true then .error (k, 0) else if 1 < (w :: wr).length then .error (k, 1) else islL r (k + 1) (acc ++ [w]) := rfl
/-- the program's own three questions -/
def rowKnown (w : Str) : Bool := (tl w).all fun c => decide (c ∈ knI)
def rowLong (w : Str) (acc : List Str) : Bool := !(decide (1 ≤ (tl w).length) && decide ((tl w).length ≤ 12)) || (match acc with | [] => false | a :: _ => decide ((tl w).length ≠ (tl a).length))
theorem badRow_eq (w : Str) (acc : List Str) : badRow w acc = (!rowKnown w || (rowLong w acc || decide (acc.length = 12))) := by
  unfold badRow rowKnown rowLong
  cases ((tl w).all fun c => decide (c ∈ knI)) <;> cases (!(decide (1 ≤ (tl w).length) && decide ((tl w).length ≤ 12))) <;> cases (decide (acc.length = 12)) <;> cases acc <;> simp
theorem e_knI : tl ((("." : Str) ++ ("~" : Str)) ++ ("ABCDEFGHIJKLMNOPQRSTUVWXYZ" : Str)) = knI := by decide +kernel
theorem rowLong_out1 {w : Str} {acc : List Str} (h : ¬ 1 ≤ (tl w).length) : rowLong w acc = true := by
  unfold rowLong
  rw [decide_eq_false h]
  rfl
theorem rowLong_out2 {w : Str} {acc : List Str} (h : ¬ (tl w).length ≤ 12) : rowLong w acc = true := by
  unfold rowLong
  rw [decide_eq_false h, Bool.and_false]
  rfl
theorem rowLong_nil {w : Str} (h1 : 1 ≤ (tl w).length) (h2 : (tl w).length ≤ 12) : rowLong w [] = false := by
  unfold rowLong
  rw [decide_eq_true h1, decide_eq_true h2]
  rfl
theorem rowLong_cons {w a : Str} {r : List Str} (h1 : 1 ≤ (tl w).length) (h2 : (tl w).length ≤ 12) : rowLong w (a :: r) = decide ((tl w).length ≠ (tl a).length) := by
  unfold rowLong
  rw [decide_eq_true h1, decide_eq_true h2]
  rfl
end Om
end PartPL4
section PartA8
set_option Elab.async false
set_option linter.all false
set_option maxRecDepth 100000
set_option maxHeartbeats 400000
namespace Om
open PySem PySem.Spec PyProof.Rows L2 He TL
section
variable {w : World} {K : Frg} {mg : Str → Option Value} {base : Heap}
/-- Line.__init__ of a new instance -/
def sp_Line_init (K : Frg) : Sp := fun vs H Q _ => ∃ (a dx wa : Addr) (n : Int), vs = [.ref a, .int n, .ref wa] ∧ H a = some (.ins (ga K "Line") dx []) ∧ dx ≠ a ∧ Q .non (SlX.slH H a (ga K "Line") dx (lnS n wa 0))
theorem sc_Line_init : FnScope ["self", "number", "words"] ["self", "number", "words"] (defScope s_Line_init) := ⟨rfl, rfl, rfl, by decide +kernel, rfl, by decide +kernel, by decide +kernel⟩
theorem ok_Line_init (T : Tx w K mg) : FnOk prg w K mg base CX0 1 (ma K (ga K "Line") "__init__") (fdOf K (ma K (ga K "Line") "__init__")) ["self", "number", "words"] (sp_Line_init K) := by
  refine T.f_Line_init.ok sc_Line_init (fun vs H Q E h => ?_) (fun cdv A outer s H vs Q E hr h => ?_)
  · obtain ⟨a, dx, wa, n, rfl, _⟩ := h
    rfl
  · obtain ⟨a, dx, wa, n, rfl, hi, hd, q⟩ := h
    refine ⟨_, PSs.nox (pss_cons (SlX.ps_sl (pv 0) (pv 1) (by rfl))
      (pss_cons (SlX.ps_sl (pv 0) (pv 2) (by rfl))
      (pss_one (SlX.ps_sl (pv 0) pe_int (by rfl))))), ?_⟩
    have s1 : SlX.Slt H a (ga K "Line") dx [] := .inl ⟨hi, rfl⟩
    have s2 := SlX.slH_slt (H := H) (C := ga K "Line") (vs := SlX.putS 1 (.int n) []) hd
    have s3 := SlX.slH_slt (H := SlX.slH H a (ga K "Line") dx (SlX.putS 1 (.int n) [])) (C := ga K "Line") (vs := SlX.putS 2 (.ref wa) (SlX.putS 1 (.int n) [])) hd
    refine ⟨_, rfl, _, rfl, a, _, dx, _, _, 1, rfl, s1, T.ln, T.s_number, _, rfl, _, rfl, a, _, dx, _, _, 2, rfl, s2, T.ln, T.s_words, _, rfl, a, _, dx, _, _, 0, rfl, s3, T.ln, T.s_at, ?_⟩
    rw [SlX.slH_twice hd, SlX.slH_twice hd]
    exact q
/-- the rows of a text, each in words -/
def rowsW (z : Str) : List (List Str) := (Txt.split z "\n").map fun l => Txt.split l " "
/-- lines_of -/
def sp_lines_of (K : Frg) : Sp := fun vs H Q _ => ∃ z : Str, vs = [.str z] ∧ z.cps.size ≤ 100000 ∧ (Txt.split z "\n").length ≤ 1000 ∧ (∀ l ∈ Txt.split z "\n", l.cps.size ≤ 100000) ∧
  ∀ p las H', Ex H H' → H' p = some (.lst (las.map V.ref)) → RowsAt K H' las (rowsW z) → las.Nodup → (∀ a ∈ las, H a = none) → Q (.ref p) H'
theorem sc_lines_of : FnScope ["text", "number", "row"] ["text"] (defScope s_lines_of) := ⟨rfl, rfl, rfl, by decide +kernel, rfl, by decide +kernel, by decide +kernel⟩
theorem ok_lines_of (T : Tx w K mg) : FnOk prg w K mg base CX0 3 (ga K "lines_of") (fdOf K (ga K "lines_of")) ["text"] (sp_lines_of K) := by
  refine T.f_lines_of.ok sc_lines_of (fun vs H Q E h => ?_) (fun cdv A outer s H vs Q E hr h => ?_)
  · obtain ⟨z, rfl, _⟩ := h
    rfl
  · obtain ⟨z, rfl, hz, hn, hl, q⟩ := h
    refine ⟨_, PSs.nox (pss_one (ps_ret (pe_lc (own := [("number", 1), ("row", 2)]) (g := gTup K 2 (gCons (gName 1) (gCons (gName 2) gNil))) rfl sc_lines_of.nd (pi_enum (by rfl) T.b_enumerate (pa_cons (pe_bm PySem.F.plainAttrs_str PySem.F.slot_str_split PySem.F.type_str_split mt_split (pv 0) (pa_cons pe_str pa_nil)) pa_nil)) (blkOk_by (own := [("number", 1), ("row", 2)]) (N := ["text", "number", "row"]) (sc := defScope s_lines_of) (by decide +kernel)) (fun _ _ _ _ _ => pg_tup rfl (pgs_cons (pg_name (i := 1) sc_lines_of.nd rfl (Or.inl rfl) (Or.inr rfl)) (pgs_cons (pg_name (i := 2) sc_lines_of.nd rfl (Or.inl rfl) (Or.inr rfl)) pgs_nil))) (fun _ _ _ _ _ => pts_nil) (fun _ _ _ _ _ => (pe_make T.mk_Line (ok_Line_init T) (hr.mono (by decide)) (by rfl) T.g_Line T.p_Line_init .nil pass0 (pa_cons (pv 1) (pa_cons (pe_bmK (K := K) rfl PySem.F.plainAttrs_str PySem.F.slot_str_split PySem.F.type_str_split mt_split (pv 2) (pa_cons pe_str pa_nil)) pa_nil))))))), ?_⟩
    have szS : ∀ l : Str, l.cps.size ≤ 100000 → l.length + 2 ≤ sizeLine := fun l h => Nat.le_trans (Nat.add_le_add_right (show l.length ≤ 100000 from h) 2) (by decide)
    refine ⟨_, rfl, ?_, z, _, rfl, rfl, by decide +kernel, szS z hz, fun p hp => ⟨p, _, rfl, .of upd_same, fun D hD => ?_⟩⟩
    · rfl
    · have xp := ex_new (o := .lst ((Txt.split z "\n").map V.str)) hp
      generalize hH1 : upd H p (.lst ((Txt.split z "\n").map V.str)) = H1 at hD xp ⊢
      have hp1 : SqL K H1 p ((Txt.split z "\n").map V.str) := by rw [← hH1]; exact .of upd_same
      refine lc_it (walk_enum (K := K) (a := p) (xs := (Txt.split z "\n").map V.str)) (fun i H' => Ex H1 H' ∧ ∃ las : List Addr, las.length = i ∧ H' D = some (.lst (las.map V.ref)) ∧ (∀ (j : Nat) (a : Addr) (ws : List Str), las[j]? = some a → (rowsW z)[j]? = some ws → LnW K H' a (j : Int) ws 0) ∧
        las.Nodup ∧ ∀ a ∈ las, H1 a = none ∧ a ≠ D ∧ ∃ o, H' a = some o) ⟨ex_new hD, [], rfl, upd_same, fun j a ws h => by simp at h, List.nodup_nil, fun a h => by simp at h⟩ (fun i H' _ q => Evl.ex_l q.1 hp1) ?_ ?_
      · rintro i x Hi H2 hi ⟨xi, las, hlen, hDi, hrows, hnd, hfr⟩ ⟨T0, x1, y1, rfl, hT, rfl, hx1, hy1⟩
        cases hx1
        have hy1 : ((Txt.split z "\n").map V.str)[i]? = some y1 := hy1
        rw [List.getElem?_map, Option.map_eq_some_iff] at hy1
        obtain ⟨l, hl1, rfl⟩ := hy1
        have hls : l.cps.size ≤ 100000 := hl l (List.mem_of_getElem? hl1)
        refine ⟨T0, _, rfl, .of upd_same, rfl, _, _, rfl, _, _, rfl, rfl, rfl, tY ?_⟩
        refine ⟨_, rfl, _, rfl, rfl, l, _, rfl, rfl, by decide +kernel, szS l hls, fun wa hwa x dx hx hdx hne => ?_⟩
        have xT : Ex Hi (upd Hi T0 (.tup [V.int i, V.str l])) := ex_new hT
        generalize upd Hi T0 (.tup [V.int i, V.str l]) = HT at xT hwa hx hdx ⊢
        have xw : Ex HT (upd HT wa (.lst ((Txt.split l " ").map V.str))) := ex_new hwa
        have hw3 : upd HT wa (.lst ((Txt.split l " ").map V.str)) wa = some (.lst ((Txt.split l " ").map V.str)) := upd_same
        generalize upd HT wa (.lst ((Txt.split l " ").map V.str)) = H3 at xw hw3 hx hdx ⊢
        have hwx : wa ≠ x := fun e => by rw [e, hx] at hw3; cases hw3
        have hwd : wa ≠ dx := fun e => by rw [e, hdx] at hw3; cases hw3
        refine ⟨x, dx, wa, i, rfl, upd_same, hne, rfl, las.map V.ref, ?_⟩
        have x4 : Ex H3 (SlX.slH (upd (upd H3 dx (.own x)) x (.ins (ga K "Line") dx [])) x (ga K "Line") dx (lnS i wa 0)) := fun b o hb => by
          have b1 : b ≠ x := ne_of_none hb hx
          have b2 : b ≠ dx := ne_of_none hb hdx
          rw [SlX.slH_ne b1 b2, upd_ne b1, upd_ne b2]
          exact hb
        have ln : LnW K (SlX.slH (upd (upd H3 dx (.own x)) x (.ins (ga K "Line") dx [])) x (ga K "Line") dx (lnS i wa 0)) x (i : Int) (Txt.split l " ") 0 :=
          ⟨dx, wa, upd_same, by unfold SlX.slH; rw [upd_ne hne, upd_same], by rw [SlX.slH_ne hwx hwd, upd_ne hwx, upd_ne hwd]; exact hw3⟩
        generalize SlX.slH (upd (upd H3 dx (.own x)) x (.ins (ga K "Line") dx [])) x (ga K "Line") dx (lnS i wa 0) = H4 at x4 ln ⊢
        have xi4 : Ex Hi H4 := (xT.trans xw).trans x4
        have hD4 : H4 D = some (.lst (las.map V.ref)) := xi4 _ _ hDi
        have hx1' : H1 x = none := Evl.fresh_back ((xi.trans xT).trans xw) hx
        have hxD : x ≠ D := fun e => by
          have e2 := (xT.trans xw) _ _ hDi
          rw [← e, hx] at e2
          cases e2
        have hnw : ∀ q : Str, Txt.split q " " ≠ [] := fun q => split_ne (by decide +kernel) (by decide +kernel) q
        refine ⟨hD4, Evl.sz_lt (by rw [List.length_map]; rw [List.length_map] at hi; omega), Evl.Ex.mut (xi.trans xi4) hD, las ++ [x], by rw [List.length_append, hlen]; rfl, by rw [List.map_append]; exact upd_same, ?_, ?_, ?_⟩
        · intro j a ws ha hws
          have hwn : ws ≠ [] := by
            have hm := List.mem_of_getElem? hws
            unfold rowsW at hm
            obtain ⟨q, _, rfl⟩ := List.mem_map.mp hm
            exact hnw q
          by_cases hj : j < las.length
          · rw [List.getElem?_append_left hj] at ha
            exact ((hrows j a ws ha hws).ex xi4).away hD4 hwn
          · rw [List.getElem?_append_right (by omega)] at ha
            have hj0 : j - las.length = 0 := by
              have := (List.getElem?_eq_some_iff.mp ha).1
              simp at this
              omega
            rw [hj0] at ha
            cases ha
            have hji : j = i := by omega
            subst hji
            have e2 : (rowsW z)[j]? = some (Txt.split l " ") := by
              unfold rowsW
              rw [List.getElem?_map, hl1]
              rfl
            rw [e2] at hws
            cases hws
            exact ln.away hD4 hwn
        · rw [List.nodup_append]
          refine ⟨hnd, by simp, fun a ha b hb => ?_⟩
          rw [List.mem_singleton.mp hb]
          intro e
          obtain ⟨_, _, o, ho⟩ := hfr a ha
          have := (xT.trans xw) _ _ ho
          rw [e, hx] at this
          cases this
        · intro a ha
          rcases List.mem_append.mp ha with ha | ha
          · obtain ⟨a1, a2, o, ho⟩ := hfr a ha
            exact ⟨a1, a2, o, by rw [upd_ne a2]; exact xi4 _ _ ho⟩
          · rw [List.mem_singleton.mp ha]
            obtain ⟨d', w', h1, _⟩ := ln
            exact ⟨hx1', hxD, _, by rw [upd_ne hxD]; exact h1⟩
      · rintro H' ⟨xi, las, hlen, hDi, hrows, hnd, hfr⟩
        rw [List.length_map] at hlen
        exact q D las H' (xp.trans xi) hDi ⟨by unfold rowsW; rw [List.length_map]; exact hlen, hrows⟩ hnd fun a ha => Evl.fresh_back xp (hfr a ha).1
end
end Om
end PartA8
section PartA9
set_option Elab.async false
set_option linter.all false
set_option maxRecDepth 100000
set_option maxHeartbeats 400000
namespace Om
open PySem PySem.Spec PyProof.Rows L2 He TL
section
variable {w : World} {K : Frg} {mg : Str → Option Value} {base : Heap}
/-- rows of words that may be read -/
def OkR (rws : List (List Str)) : Prop := rws.length ≤ 1000 ∧ ∀ ws ∈ rws, ws ≠ [] ∧ ws.length ≤ 1000 ∧ OkW ws
def sp_read_island (K : Frg) : Sp := fun vs H Q E => ∃ (b : Addr) (las : List Addr) (rws : List (List Str)), vs = [.ref b] ∧ H b = some (.lst (las.map V.ref)) ∧ RowsAt K H las rws ∧ las.Nodup ∧ OkR rws ∧ rws ≠ [] ∧
  (∀ rows, islandAt rws = .ok rows → ∀ p H', Ky (las.take (rows.length + 1)) H H' → SqT K H' p (rows.map V.str) → Q (.ref p) H') ∧ (∀ r k, islandAt rws = .error (r, k) → Fails K las H r k E)
theorem sc_read_island : FnScope ["lines", "rows", "line", "word", "is_known", "is_long", "sign"] ["lines"] (defScope s_read_island) := ⟨rfl, rfl, rfl, by decide +kernel, rfl, by decide +kernel, by decide +kernel⟩
theorem ok_read_island (T : Tx w K mg) : FnOk prg w K mg base (L2.CX prg w) 7 (ga K "read_island") (fdOf K (ga K "read_island")) ["lines"] (sp_read_island K) := by
  refine T.f_read_island.ok sc_read_island (fun vs H Q E h => ?_) (fun cdv A outer s H vs Q E hr h => ?_)
  · obtain ⟨b, las, rws, rfl, _⟩ := h
    rfl
  · obtain ⟨b, las, rws, rfl, hb, hrw, hnd, ok, hne, q, f⟩ := h
    refine ⟨_, (pss_cons (ps_expr (SlX.pe_methSl (pe_ix ix_list (pv 0) pe_int (fun _ _ => rfl)) T.ln T.m_Line_take_word ((ok_Line_take_word T).raw T.p_Line_take_word .nil) (hr.mono (by decide)) (passes_call (takes_of rfl rfl rfl rfl) fun _ _ _ _ z => z) (pa_cons (pe_tup (pa_cons (pe_glob (v := .str _) (by rfl) T.c_ISLAND.choose_spec ⟨_, rfl⟩) pa_nil)) pa_nil)))
      (pss_cons (ps_expr (SlX.pe_methSl0 (pe_ix ix_list (pv 0) pe_int (fun _ _ => rfl)) T.ln T.m_Line_end ((ok_Line_end T).raw T.p_Line_end .nil) (hr.mono (by decide)) (passes_call (takes_of rfl rfl rfl rfl) fun _ _ _ _ z => z)))
      (pss_cons (ps_set (i := 1) sc_read_island.nd rfl (Or.inl rfl) (pe_lst pa_nil))
      (pss_cons (ps_for (passes_of rfl) rfl (pi_list (pe_slice sl_list (pv 0) (po_some pe_int) po_none)) (pg_name (i := 2) sc_read_island.nd rfl (Or.inl rfl)) (pss_cons (ps_set (i := 3) sc_read_island.nd rfl (Or.inl rfl) (pe_ix ix_list (SlX.pe_sl (pv 2) (by rfl)) pe_int (fun _ _ => rfl)))
      (Evl.pss_cut (ps_if (PW.pt (pw_and (pt_cmpR op_eq (pv 3) (pe_glob (v := .str _) (by rfl) T.c_FROM.choose_spec ⟨_, rfl⟩) (nomark _)) (pw_and1 (pt_cmpR (op_neD hr.units) (pv 1) (pe_lst pa_nil) (nomark _))))) (pss_one (ps_ret (pe_callTy call_tuple_of (by rfl) T.b_tuple boot_tuple (pa_cons (pv 1) pa_nil)))) pss_nil)
      (pss_cons (ps_set (i := 4) sc_read_island.nd rfl (Or.inl rfl) (pe_cmpR (op_eqD hr.units) (pe_lc (own := [("sign", 6)]) (g := gName 6) rfl sc_read_island.nd (pi_str (pv 3)) (blkOk_by (own := [("sign", 6)]) (N := ["lines", "rows", "line", "word", "is_known", "is_long", "sign"]) (sc := defScope s_read_island) (by decide +kernel)) (fun _ _ _ _ _ => pg_name (i := 6) sc_read_island.nd rfl (Or.inl rfl)) (fun _ _ _ _ _ => pts_one (pt_cmpR op_notIn_sign (pv 6) (pe_op op_add_str (pe_op op_add_str (pe_glob (v := .str _) (by rfl) T.c_LAND.choose_spec ⟨_, rfl⟩) (pe_glob (v := .str _) (by rfl) T.c_WATER.choose_spec ⟨_, rfl⟩)) (pe_glob (v := .str _) (by rfl) T.c_LETTERS.choose_spec ⟨_, rfl⟩)) (by rfl))) (fun _ _ _ _ _ => (pv 6))) (pe_lst pa_nil) (nomark _)))
      (Evl.pss_cut (ps_set (i := 5) sc_read_island.nd rfl (Or.inl rfl) (pe_or (pe_not (pe_chain op_le op_le pe_int (pe_callB call_len_str (by rfl) T.b_len PySem.boot_len (pa_cons (pv 3) pa_nil)) (pe_glob (v := .int _) (by rfl) T.c_MAX_SIZE.choose_spec ⟨_, rfl⟩))) (pe_one (pe_and (pe_cmpR (op_neD hr.units) (pv 1) (pe_lst pa_nil) (nomark _)) (pe_one (pe_cmpR op_ne (pe_callB call_len_str (by rfl) T.b_len PySem.boot_len (pa_cons (pv 3) pa_nil)) (pe_callB call_len_str (by rfl) T.b_len PySem.boot_len (pa_cons (pe_ix ix_list (pv 1) pe_int (fun _ _ => rfl)) pa_nil)) (nomark _)))))))
      (Evl.pss_cut (ps_if (PW.pt (pw_or (pt_not (pt_val (pv 4))) (pw_or (pt_val (pv 5)) (pw_or1 (pt_cmpR op_eq (pe_callB call_len_seq (by rfl) T.b_len PySem.boot_len (pa_cons (pv 1) pa_nil)) (pe_glob (v := .int _) (by rfl) T.c_MAX_SIZE.choose_spec ⟨_, rfl⟩) (nomark _)))))) (pss_one (ps_expr (SlX.pe_methSl0 (pv 2) T.ln T.m_Line_fail ((ok_Line_fail T).raw T.p_Line_fail .nil) (hr.mono (by decide)) (passes_call (takes_of rfl rfl rfl rfl) fun _ _ _ _ z => z)))) pss_nil)
      (pss_cons (ps_expr (pe_bm PySem.F.plainAttrs_list PySem.F.slot_list_append PySem.F.type_list_append mt_append (pv 1) (pa_cons (SlX.pe_methSl0 (pv 2) T.ln T.m_Line_take ((ok_Line_take T).raw T.p_Line_take .nil) (hr.mono (by decide)) (passes_call (takes_of rfl rfl rfl rfl) fun _ _ _ _ z => z)) pa_nil)))
      (pss_one (ps_expr (SlX.pe_methSl0 (pv 2) T.ln T.m_Line_end ((ok_Line_end T).raw T.p_Line_end .nil) (hr.mono (by decide)) (passes_call (takes_of rfl rfl rfl rfl) fun _ _ _ _ z => z)))))))))))
      (pss_one (ps_raise rfl (takes_of rfl rfl rfl rfl) (pmk_IT (k := 2) rfl T.xIT T.x_InvalidText_no_row T.x_InvalidText_no_word T.x_InvalidText_ty T.kp_InvalidText (hr.mono (by decide)) (by rfl) T.g_InvalidText (pk_cons (pe_callB call_len_seq (by rfl) T.b_len PySem.boot_len (pa_cons (pv 0) pa_nil)) (pk_cons pe_int pk_nil))))))))), ?_⟩
    have lat : ∀ s ∈ las, ∃ n ws k, LnW K H s n ws k := fun s hs => hrw.at hs
    obtain ⟨r0, rr, hr0⟩ : ∃ r0 rr, rws = r0 :: rr := by
      cases rws with
      | nil => exact absurd rfl hne
      | cons a r => exact ⟨a, r, rfl⟩
    obtain ⟨la0, lar, hla⟩ : ∃ la0 lar, las = la0 :: lar := by
      cases las with
      | nil =>
        have e := hrw.1
        rw [hr0] at e
        cases e
      | cons a r => exact ⟨a, r, rfl⟩
    obtain ⟨dx, wa, l0⟩ : ∃ dx wa, LnX K H la0 0 r0 0 dx wa := hrw.2 0 la0 r0 (by rw [hla]; rfl) (by rw [hr0]; rfl)
    obtain ⟨r0n, r0l, r0w⟩ := ok.2 r0 (by rw [hr0]; exact .head _)
    obtain ⟨hdx, hwa, hwd, hs, hw⟩ := l0.slt
    have la0m : la0 ∈ las := by rw [hla]; exact .head _
    have at0 : atI (las.map V.ref) 0 = some (.ref la0) := atI_nat (j := 0) (by rw [hla]; rfl)
    refine ⟨_, rfl, b, _, 0, .ref la0, rfl, rfl, .of hb, at0, la0, dx, _, rfl, hs, Evl.sz_of (by simp), fun p hp => ?_⟩
    have l0p := l0.ex (ex_new (o := .tup [V.str "island"]) hp)
    have xp := ex_new (o := .tup [V.str "island"]) hp
    have hpt : SqT K (upd H p (.tup [V.str "island"])) p ((["island"] : List Str).map V.str) := .of upd_same
    generalize upd H p (.tup [V.str "island"]) = Hp1 at l0p xp hpt ⊢
    refine ⟨la0, p, 0, 0, r0, (["island"] : List Str), dx, wa, rfl, l0p, hpt, fun z hz hm H1 k1 l1 => ?_, fun hbad => ?_⟩
    · -- the first word is right
      have kH : Ky [la0] H H1 := (Ky.of xp).trans k1
      have kS : ∀ s ∈ [la0], ∃ n ws k, LnW K H s n ws k := fun s hs => by rw [List.mem_singleton.mp hs]; exact lat _ la0m
      have hb1 : H1 b = some (.lst (las.map V.ref)) := lst_keep hb kH kS
      obtain ⟨hdx1, hwa1, hwd1, hs1, hw1⟩ := l1.slt
      have hz1 : r0 = z :: r0.tail := by
        cases r0 with
        | nil => cases hz
        | cons a r => cases hz; rfl
      have ez : z = "island" := by simpa using hm
      refine ⟨_, rfl, b, _, 0, .ref la0, rfl, rfl, .of hb1, at0, la0, dx, _, rfl, hs1, la0, 0, 1, r0, rfl, l1.w, fun hlen => ?_, fun hlen => ?_⟩
      · have er0 : r0 = [("island" : Str)] := by
          rw [hz1, ez]
          have : r0.tail = [] := List.eq_nil_of_length_eq_zero (by rw [List.length_tail]; omega)
          rw [this]
        have eI : islandAt rws = islL rr 1 [] := by
          rw [hr0, islandAt_cons, if_pos er0]
        rw [eI] at q f
        refine ⟨by decide, fun r hr => ⟨_, rfl, _, rfl, ?_⟩⟩
        have xr := ex_new (o := .lst []) hr
        have hr2 : upd H1 r (.lst []) r = some (.lst []) := upd_same
        generalize upd H1 r (.lst []) = H2 at xr hr2 ⊢
        have hb2 := xr _ _ hb1
        refine ⟨b, las.map V.ref, rfl, .of hb2, fun sl hsl => ?_⟩
        have hcv : cutV (las.map V.ref) (some 1) none = (las.drop 1).map V.ref := (cutV_from _ 1).trans (by rw [List.map_drop])
        rw [hcv]
        have xsl := ex_new (o := .lst ((las.drop 1).map V.ref)) hsl
        have hsl2 : upd H2 sl (.lst ((las.drop 1).map V.ref)) sl = some (.lst ((las.drop 1).map V.ref)) := upd_same
        generalize upd H2 sl (.lst ((las.drop 1).map V.ref)) = H3 at xsl hsl2 ⊢
        have hr3 := xsl _ _ hr2
        have kH3 : Ky [la0] H H3 := kH.trans (.of (xr.trans xsl))
        have hrH : H r = none := kH.fresh hr (by
          intro hm
          rw [List.mem_singleton.mp hm] at hr
          obtain ⟨q1, _⟩ := l1
          rw [hr] at q1
          cases q1)
        refine ⟨sl, rfl, ⟨_, .of hsl2⟩, ?_⟩
        refine for_it (walk_list (K := K) (a := sl) (xs := (las.drop 1).map V.ref)) (fun i σ H' => ∃ (acc : List Str) (o2 o3 o4 o5 o6 : Option V), σ = [some (.ref b), some (.ref r), o2, o3, o4, o5, o6] ∧ acc.length = i ∧ H' r = some (.lst (acc.map V.str)) ∧ H' sl = some (.lst ((las.drop 1).map V.ref)) ∧
          islL (rws.drop (i + 1)) (i + 1) acc = islL rr 1 [] ∧ OkW acc ∧ Ky (las.take (i + 1)) H H') ⟨[], none, none, none, none, none, rfl, rfl, hr3, hsl2, (by rw [hr0]; rfl), (fun z hz => by cases hz), (by rw [hla]; exact kH3)⟩ (fun i σ H' _ hP => ?_) ?_ ?_
        · obtain ⟨_, _, _, _, _, _, _, _, _, h, _⟩ := hP
          exact .of h
        · rintro i x σ Hz H' hi ⟨acc, o2, o3, o4, o5, o6, rfl, hacc, hra, hsa, hisl, okA, kk⟩ ⟨rfl, hx⟩
          rw [List.getElem?_map, Option.map_eq_some_iff] at hx
          obtain ⟨la, hla1, rfl⟩ := hx
          rw [List.getElem?_drop, Nat.add_comm 1 i] at hla1
          have hj : i + 1 < rws.length := by rw [← hrw.1]; exact (List.getElem?_eq_some_iff.mp hla1).1
          obtain ⟨ws, hws⟩ : ∃ ws, rws[i + 1]? = some ws := ⟨_, List.getElem?_eq_getElem hj⟩
          have hsub : ∀ s ∈ las.take (i + 1), ∃ n ws k, LnW K H s n ws k := fun s hs => lat s (List.mem_of_mem_take hs)
          have hlam : la ∈ las := List.mem_of_getElem? hla1
          have hnin : la ∉ las.take (i + 1) := fun hm => by
            obtain ⟨j, hj, e⟩ := List.getElem_of_mem hm
            rw [List.getElem_take] at e
            have hlt : i + 1 < las.length := (List.getElem?_eq_some_iff.mp hla1).1
            have e2 : las[i + 1] = la := (List.getElem?_eq_some_iff.mp hla1).2
            rw [List.length_take] at hj
            have := (List.getElem_inj (h₀ := by omega) (h₁ := hlt) hnd).mp (e.trans e2.symm)
            omega
          obtain ⟨dxl, wal, lx0⟩ : ∃ dx wa, LnX K H la ((i + 1 : Nat) : Int) ws 0 dx wa := hrw.2 _ _ _ hla1 hws
          have ll : LnX K H' la ((i + 1 : Nat) : Int) ws 0 dxl wal := lx0.keep kk hsub hnin
          obtain ⟨wn, wl, wok⟩ := ok.2 ws (List.mem_of_getElem? hws)
          obtain ⟨wd, wr, rfl⟩ : ∃ wd wr, ws = wd :: wr := by
            cases ws with
            | nil => exact absurd rfl wn
            | cons a r => exact ⟨a, r, rfl⟩
          obtain ⟨wd1, wd2⟩ := wok wd (.head _)
          have hdr : rws.drop (i + 1) = (wd :: wr) :: rws.drop (i + 2) := by
            rw [List.drop_eq_getElem_cons hj, Option.some.inj ((List.getElem?_eq_getElem hj).symm.trans hws)]
          rw [hdr, islL_cons] at hisl
          obtain ⟨hdx2, hwa2, hwd2, hs2, hw2⟩ := ll.slt
          refine ⟨_, rfl, la, _, dxl, _, _, 2, _, rfl, hs2, T.ln, T.s_words, rfl, wal, _, 0, .str wd, rfl, rfl, .of hw2, atI_nat (j := 0) rfl, ?_⟩
          have hRl : ∀ H2, Ex H' H2 → NewL K H2 r (acc.map PyData.str) := fun H2 x2 => ⟨_, x2 _ _ hra, dps_str acc, tupDs_str 8 fun z hz => (okA z hz).1⟩
          have eE : (acc.map PyData.str).isEmpty = acc.isEmpty := by cases acc <;> rfl
          have fails0 : ∀ H2, Ex H' H2 → islL rr 1 [] = .error (i + 1, 0) → Fails K las H2 ((i + 1 : Nat) : Int) 0 E := fun H2 x2 e => (f _ _ e).go ((kk.mono fun a ha => List.mem_of_mem_take ha).trans (.of x2))
          -- if word == FROM and rows != []
          refine ⟨fun σ' H2 => ¬ (wd = "from" ∧ acc ≠ []) ∧ σ' = [some (.ref b), some (.ref r), some (.ref la), some (.str wd), o4, o5, o6] ∧ Ex H' H2, ?_, ?_⟩
          · refine ⟨_, rfl, rfl, _, rfl, ?_⟩
            refine ifB (fun e => ?_) (fun e => ?_)
            · have ew : wd = "from" := by
                rw [vstr_eq] at e
                exact ext_tl (of_decide_eq_true e)
              refine ⟨_, rfl, by decide, fun p hp => nil_ne (hRl _ (ex_new hp)) upd_same ⟨_, rfl, ?_⟩⟩
              rw [eE]
              refine ifB (fun e2 => ?_) (fun e2 => ?_)
              · have en : acc ≠ [] := fun q => by rw [q] at e2; cases e2
                rw [if_pos ⟨ew, en⟩] at hisl
                refine ⟨_, rfl, r, _, rfl, .inl ⟨.of ((ex_new hp) _ _ hra), fun l hl => q acc hisl.symm l _ ?_ (.of upd_same)⟩⟩
                rw [hacc]
                exact kk.trans (.of ((ex_new hp).trans (ex_new hl)))
              · have en : acc = [] := by cases acc with | nil => rfl | cons a s => cases e2
                exact ⟨fun h => h.2 en, rfl, ex_new hp⟩
            · have ew : wd ≠ "from" := fun q => by
                rw [vstr_eq, q] at e
                exact absurd e (by simp)
              exact ⟨fun h => ew h.1, rfl, Evl.Ex.refl _⟩
          rintro σ' H2 ⟨hnf, rfl, x2⟩
          rw [if_neg hnf] at hisl
          have lwd : wd.length ≤ sizeLine := Evl.sz_of (show wd.length ≤ 100000 from Nat.le_trans (show wd.cps.size ≤ 1000 from wd2) (by decide))
          have lwt : (wd.length : Int) = ((tl wd).length : Int) := by rw [len_tl]
          refine ⟨_, rfl, wd, rfl, fun D hD => lcS (K := K) (fun c => !decide (c ∈ tl ((("." : Str) ++ ("~" : Str)) ++ ("ABCDEFGHIJKLMNOPQRSTUVWXYZ" : Str)))) hD wd1 (by omega) (fun _ => rfl) rfl (fun c H5 Pt hc x5 hp => ⟨_, rfl, _, _, rfl, rfl, by decide +kernel, _, _, rfl, rfl, by decide +kernel, c, _, rfl, rfl, _, rfl, hp⟩) ?_⟩
          intro H3 x3 hn
          refine ⟨by decide, fun p hp => nil_eq (hn.ex (ex_new hp)) upd_same ?_⟩
          rw [filter_none]
          have ek : ((tl wd).all fun c => !(!decide (c ∈ tl ((("." : Str) ++ ("~" : Str)) ++ ("ABCDEFGHIJKLMNOPQRSTUVWXYZ" : Str))))) = rowKnown wd := by
            rw [e_knI]
            simp only [Bool.not_not]
            rfl
          rw [ek]
          have x4 := (x2.trans x3).trans (ex_new (o := .lst []) hp)
          generalize upd H3 p (.lst []) = H4 at x4 ⊢
          -- is_long
          refine ⟨fun σ' H5 => σ' = [some (.ref b), some (.ref r), some (.ref la), some (.str wd), some (.bl (rowKnown wd)), some (.bl (rowLong wd acc)), o6] ∧ Ex H' H5, ?_, ?_⟩
          · have fin : ∀ (c : Bool) H5, Ex H' H5 → c = rowLong wd acc → gName 5 (.bl c) [some (.ref b), some (.ref r), some (.ref la), some (.str wd), some (.bl (rowKnown wd)), o5, o6] H5 (fun σ' H5 => σ' = [some (.ref b), some (.ref r), some (.ref la), some (.str wd), some (.bl (rowKnown wd)), some (.bl (rowLong wd acc)), o6] ∧ Ex H' H5) := fun c H5 x5 e => by
              rw [e]
              exact ⟨rfl, x5⟩
            refine ⟨_, rfl, wd, rfl, lwd, _, _, rfl, rfl, _, rfl, ?_⟩
            refine ifB (fun e1 => ?_) (fun e1 => ?_)
            · have h1 : 1 ≤ (tl wd).length := by
                have := of_decide_eq_true e1
                omega
              refine ⟨_, _, rfl, rfl, _, rfl, _, rfl, ?_⟩
              refine ifB (fun e2 => ?_) (fun e2 => ?_)
              · have h2 : ¬ (tl wd).length ≤ 12 := by
                  have e3 : decide ((wd.length : Int) ≤ 12) = false := by simpa using e2
                  have := of_decide_eq_false e3
                  omega
                exact fin _ _ x4 (rowLong_out2 h2).symm
              · have h2 : (tl wd).length ≤ 12 := by
                  have e3 : decide ((wd.length : Int) ≤ 12) = true := by simpa using e2
                  have := of_decide_eq_true e3
                  omega
                refine ⟨_, rfl, by decide, fun p2 hp2 => nil_ne (hRl _ (x4.trans (ex_new hp2))) upd_same ⟨_, rfl, ?_⟩⟩
                rw [eE]
                have x5 := x4.trans (ex_new (o := .lst []) hp2)
                refine ifB (fun e3 => ?_) (fun e3 => ?_)
                · cases acc with
                  | nil => cases e3
                  | cons a0 ar =>
                    have la0' : a0.length ≤ sizeLine := Evl.sz_of (show a0.length ≤ 100000 from Nat.le_trans (show a0.cps.size ≤ 1000 from (okA a0 (.head _)).2) (by decide))
                    refine ⟨_, rfl, wd, rfl, lwd, _, rfl, r, _, 0, .str a0, rfl, rfl, .of (x5 _ _ hra), atI_nat (j := 0) rfl, a0, rfl, la0', rfl, fin _ _ x5 ?_⟩
                    rw [rowLong_cons h1 h2]
                    show (!decide (V.int (wd.length : Int) = V.int (a0.length : Int))) = decide ((tl wd).length ≠ (tl a0).length)
                    rw [len_tl, len_tl]
                    by_cases h : (tl wd).length = (tl a0).length
                    · rw [h]
                      simp
                    · rw [decide_eq_true h]
                      have : ¬ V.int ((tl wd).length : Int) = V.int ((tl a0).length : Int) := fun q => h (by have := V.int.inj q; omega)
                      rw [decide_eq_false this]
                      rfl
                · refine fin _ _ x5 ?_
                  have en : acc = [] := by cases acc with | nil => rfl | cons a s => cases e3
                  rw [en, rowLong_nil h1 h2]
            · have h1 : ¬ 1 ≤ (tl wd).length := by
                have := of_decide_eq_false e1
                omega
              refine ⟨_, rfl, _, rfl, iteT (fin _ _ x4 (rowLong_out1 h1).symm)⟩
          rintro σ' H5 ⟨rfl, x5⟩
          -- fail, or not
          refine ⟨fun σ' H6 => badRow wd acc = false ∧ σ' = [some (.ref b), some (.ref r), some (.ref la), some (.str wd), some (.bl (rowKnown wd)), some (.bl (rowLong wd acc)), o6] ∧ Ex H' H6, ?_, ?_⟩
          · have ll5 := ll.ex x5
            obtain ⟨_, _, _, hs5, hw5⟩ := ll5.slt
            have no : badRow wd acc = true → SlX.tMethSl (ga K "Line") (fun vs H Q E => sp_Line_fail K (vs ++ []) H Q E) E (tVar 2) tNil [some (.ref b), some (.ref r), some (.ref la), some (.str wd), some (.bl (rowKnown wd)), some (.bl (rowLong wd acc)), o6] H5 (fun _ H6 => badRow wd acc = false ∧ [some (V.ref b), some (.ref r), some (.ref la), some (.str wd), some (.bl (rowKnown wd)), some (.bl (rowLong wd acc)), o6] = [some (.ref b), some (.ref r), some (.ref la), some (.str wd), some (.bl (rowKnown wd)), some (.bl (rowLong wd acc)), o6] ∧ Ex H' H6) := fun e => by
              rw [if_pos e] at hisl
              exact ⟨_, rfl, la, dxl, _, rfl, hs5, la, _, 0, wd :: wr, rfl, ll5.w, (fails0 H5 x5 hisl.symm).less (by simp)⟩
            rw [badRow_eq] at no ⊢
            refine ⟨_, rfl, _, rfl, ?_⟩
            refine ifB (fun e1 => ?_) (fun e1 => ?_)
            · exact no (by rw [e1]; rfl)
            · refine ⟨_, rfl, _, rfl, ?_⟩
              refine ifB (fun e2 => ?_) (fun e2 => ?_)
              · exact no (by rw [e1, e2]; rfl)
              · refine ⟨_, rfl, r, _, rfl, .inl (.of (x5 _ _ hra)), rfl, _, rfl, ?_⟩
                rw [List.length_map]
                have e4 : decide (V.int (acc.length : Int) = V.int 12) = decide (acc.length = 12) := by
                  by_cases h : acc.length = 12
                  · rw [h]; rfl
                  · rw [decide_eq_false h]
                    exact decide_eq_false fun q => h (by have := V.int.inj q; omega)
                rw [e4]
                refine ifB (fun e3 => ?_) (fun e3 => ?_)
                · exact no (by rw [e1, e2, e3]; rfl)
                · exact ⟨by rw [e1, e2, e3]; rfl, rfl, x5⟩
          rintro σ' H6 ⟨hnb, rfl, x6⟩
          rw [if_neg (by rw [hnb]; exact Bool.false_ne_true)] at hisl
          have ll6 := ll.ex x6
          obtain ⟨_, _, _, hs6, hw6⟩ := ll6.slt
          have hr6 := x6 _ _ hra
          refine ⟨_, rfl, .inl ⟨rfl, _, .of hr6⟩, _, rfl, la, dxl, _, rfl, hs6, la, _, 0, wd :: wr, dxl, wal, rfl, ll6, fun z hz H7 k7 l7 => ?_, fun hlen => absurd hlen (by simp)⟩
          cases hz
          have kS7 : ∀ s ∈ [la], ∃ n ws k, LnW K H6 s n ws k := fun s hs => by rw [List.mem_singleton.mp hs]; exact ⟨_, _, _, ll6.w⟩
          have hr7 := lst_keep hr6 k7 kS7
          have hsl7 := lst_keep (x6 _ _ hsa) k7 kS7
          refine ⟨r, _, .str wd, rfl, rfl, hr7, Evl.sz_lt (by rw [List.length_map]; rw [List.length_map, List.length_drop, hrw.1] at hi; have := ok.1; omega), ?_⟩
          have l8 : LnX K (upd H7 r (.lst (acc.map V.str ++ [.str wd]))) la ((i + 1 : Nat) : Int) (wd :: wr) ((0 + 1 : Nat) : Int) dxl wal := l7.put lx0 hrH
          have k8 : Ky (las.take (i + 1 + 1)) H (upd H7 r (.lst (acc.map V.str ++ [.str wd]))) := by
            have a1 : Ky (las.take (i + 1 + 1)) H H7 := ((kk.mono fun a ha => ?_).trans (.of x6)).trans (k7.mono fun a ha => ?_)
            · exact a1.mut hrH
            · exact List.take_subset_take_left las (Nat.le_succ _) ha
            · rw [List.mem_singleton.mp ha, List.take_add_one, hla1]
              simp
          have hsl8 : upd H7 r (.lst (acc.map V.str ++ [.str wd])) sl = some (.lst ((las.drop 1).map V.ref)) := by
            rw [upd_ne (show sl ≠ r from fun e => by rw [e] at hsl; rw [hr2] at hsl; cases hsl)]
            exact hsl7
          have hr8 : upd H7 r (.lst (acc.map V.str ++ [.str wd])) r = some (.lst (acc.map V.str ++ [.str wd])) := upd_same
          generalize upd H7 r (.lst (acc.map V.str ++ [.str wd])) = H8 at l8 k8 hsl8 hr8 ⊢
          obtain ⟨_, _, _, hs8, hw8⟩ := l8.slt
          refine ⟨_, rfl, la, dxl, _, rfl, hs8, la, _, 0 + 1, wd :: wr, rfl, l8.w, fun hlen => ?_, fun hlen => ?_⟩
          · rw [if_neg (by omega)] at hisl
            exact ⟨acc ++ [wd], some (.ref la), some (.str wd), some (.bl (rowKnown wd)), some (.bl (rowLong wd acc)), o6, rfl, by rw [List.length_append, hacc]; rfl, by rw [List.map_append]; exact hr8, hsl8, hisl, fun z hz => by
              rcases List.mem_append.mp hz with hz | hz
              · exact okA z hz
              · rw [List.mem_singleton.mp hz]
                exact wok wd (.head _), k8⟩
          · rw [if_pos (by omega)] at hisl
            have := (f _ _ hisl.symm).go (k8.mono fun a ha => List.mem_of_mem_take ha)
            exact this.less (by simp)
        · rintro σ H' ⟨acc, o2, o3, o4, o5, o6, rfl, hacc, hra, hsa, hisl, okA, kk⟩
          rw [List.length_map, List.length_drop] at hacc hisl
          have hb8 : H' b = some (.lst (las.map V.ref)) := lst_keep hb kk fun s hs => lat s (List.mem_of_mem_take hs)
          have hlen : las.length - 1 + 1 = las.length := by rw [hla]; simp
          rw [hlen, hrw.1, List.drop_of_length_le (Nat.le_refl _), islL_nil] at hisl
          refine ⟨_, rfl, b, _, rfl, .inl (.of hb8), rfl, fun d hd => ?_⟩
          have g := (f _ _ hisl.symm).go (kk.mono fun a ha => List.mem_of_mem_take ha) d _ (Ky.new hd) upd_same
          show E (.ref (ga K "InvalidText")) (some d) (upd H' d (.xd [("row", .int ((las.map V.ref).length : Nat)), ("word", .int 0)]))
          rw [List.length_map, hrw.1]
          exact g
      · have := (f 0 1 (by
          rw [hr0, islandAt_cons]
          have : r0 ≠ [("island" : Str)] := fun e => by rw [e] at hlen; exact absurd hlen (by decide)
          rw [if_neg this, hz1, ez]
          rfl)).go (kH.mono (by simp [la0m]))
        exact this.less (by simp)
    · have := (f 0 0 (by
        rw [hr0, islandAt_cons]
        have hh : r0.headD Str.empty ≠ "island" := fun e => by
          cases r0 with
          | nil => exact r0n rfl
          | cons a r => exact hbad a rfl (by rw [show a = "island" from e]; simp)
        have : r0 ≠ [("island" : Str)] := fun e => hh (by rw [e]; rfl)
        rw [if_neg this, if_neg hh])).go (Ky.of (S := las) xp)
      exact this.less (by simp [la0m])
end
end Om
end PartA9
section PartPL5
set_option Elab.async false
set_option linter.all false
/-! Plain lemmas on the beginning's row. -/
namespace Om
open PySem L2 TL
def sideV (w : Str) : Int := ((sideIx w).getD 0 : Nat)
theorem side_in (z : Str) (h : z ∈ sides) : ∃ i, sideIx z = some i ∧ sides[i]? = some z ∧ (∀ m, m < i → sides[m]? ≠ some z) ∧ sideV z = (i : Int) := by
  have go : ∀ (y : Str) (i : Nat), sideIx y = some i → sides[i]? = some y → (∀ m, m < i → sides[m]? ≠ some y) → ∃ i, sideIx y = some i ∧ sides[i]? = some y ∧ (∀ m, m < i → sides[m]? ≠ some y) ∧ sideV y = (i : Int) := fun y i a b c => ⟨i, a, b, c, by unfold sideV; rw [a]; rfl⟩
  unfold sides at h
  simp only [List.mem_cons, List.not_mem_nil, or_false] at h
  rcases h with rfl | rfl | rfl | rfl
  · exact go _ 0 (by decide +kernel) rfl (fun m hm => by omega)
  · exact go _ 1 (by decide +kernel) rfl (fun m hm => by
      have : m = 0 := by omega
      subst this
      decide +kernel)
  · exact go _ 2 (by decide +kernel) rfl (fun m hm => by
      have : m = 0 ∨ m = 1 := by omega
      rcases this with rfl | rfl <;> decide +kernel)
  · exact go _ 3 (by decide +kernel) rfl (fun m hm => by
      have : m = 0 ∨ m = 1 ∨ m = 2 := by omega
      rcases this with rfl | rfl | rfl <;> decide +kernel)
theorem side_out (z : Str) (h : z ∉ sides) : sideIx z = none := by
  unfold sides at h
  simp only [List.mem_cons, List.not_mem_nil, or_false, not_or] at h
  obtain ⟨h1, h2, h3, h4⟩ := h
  unfold sideIx
  rw [if_neg h1, if_neg h2, if_neg h3, if_neg h4]
theorem sidesL_all : ∀ (ws : List Str) (k : Nat), (∀ z ∈ ws, z ∈ sides) → sidesL ws k = .ok (ws.map sideV)
  | [], _, _ => rfl
  | w :: r, k, h => by
    obtain ⟨i, h1, _, _, h4⟩ := side_in w (h w (.head _))
    unfold sidesL
    rw [h1]
    simp only [sidesL_all r (k + 1) fun z hz => h z (.tail _ hz)]
    rw [List.map_cons, h4]
theorem sidesL_bad : ∀ (pre : List Str) (z : Str) (post : List Str) (k : Nat), (∀ y ∈ pre, y ∈ sides) → z ∉ sides → sidesL (pre ++ z :: post) k = .error (k + pre.length)
  | [], z, post, k, _, hz => by
    show sidesL (z :: post) k = _
    unfold sidesL
    rw [side_out z hz]
    rfl
  | y :: pre, z, post, k, h, hz => by
    obtain ⟨i, h1, _⟩ := side_in y (h y (.head _))
    show sidesL (y :: (pre ++ z :: post)) k = _
    unfold sidesL
    rw [h1]
    simp only [sidesL_bad pre z post (k + 1) (fun x hx => h x (.tail _ hx)) hz]
    rw [List.length_cons, Nat.add_assoc, Nat.add_comm 1]
/-- the words from 2 up to j are sides -/
def SideTo (ws : List Str) (j : Nat) : Prop := ∀ y ∈ (ws.drop 2).take (j - 2), y ∈ sides
theorem sideTo_succ {ws : List Str} {j : Nat} {z : Str} (h : SideTo ws j) (hk : 2 ≤ j) (hz : ws[j]? = some z) (hn : z ∈ sides) : SideTo ws (j + 1) ∧ (ws.drop 2).take (j + 1 - 2) = (ws.drop 2).take (j - 2) ++ [z] := by
  have e : (ws.drop 2).take (j + 1 - 2) = (ws.drop 2).take (j - 2) ++ [z] := by
    rw [show j + 1 - 2 = (j - 2) + 1 by omega, List.take_add_one, List.getElem?_drop, show 2 + (j - 2) = j by omega, hz]
    rfl
  refine ⟨fun y hy => ?_, e⟩
  rw [e] at hy
  rcases List.mem_append.mp hy with hy | hy
  · exact h y hy
  · rw [List.mem_singleton.mp hy]
    exact hn
theorem begin_eq (ws : List Str) (w : Str) (h1 : ws[1]? = some w) : beginAt ws = if isSig knS w = true then (match ws.drop 2 with | [] => .error 2 | _ => match sidesL (ws.drop 2) 2 with | .ok l => .ok (w, l) | .error e => .error e) else .error 1 := by
  match ws, h1 with
  | _ :: b :: r, h1 =>
    cases h1
    cases r <;> rfl
theorem begin_short {ws : List Str} (h : ws[1]? = none) : beginAt ws = .error 1 := by
  match ws, h with
  | [], _ => rfl
  | [_], _ => rfl
theorem begin_done {ws : List Str} {w : Str} {j : Nat} (h1 : ws[1]? = some w) (hs : isSig knS w = true) (h : SideTo ws j) (hj : ws.length ≤ j) (hk : 2 < ws.length) : beginAt ws = .ok (w, ((ws.drop 2).take (j - 2)).map sideV) := by
  have e : (ws.drop 2).take (j - 2) = ws.drop 2 := List.take_of_length_le (by rw [List.length_drop]; omega)
  have h' : ∀ y ∈ ws.drop 2, y ∈ sides := fun y hy => h y (by rw [e]; exact hy)
  rw [begin_eq ws w h1, if_pos hs, e]
  cases q : ws.drop 2 with
  | nil =>
    have := congrArg List.length q
    rw [List.length_drop] at this
    simp at this
    omega
  | cons a r =>
    rw [q] at h'
    simp only [sidesL_all _ 2 h']
theorem begin_stop {ws : List Str} {w : Str} {j : Nat} {z : Str} (h1 : ws[1]? = some w) (hs : isSig knS w = true) (h : SideTo ws j) (hk : 2 ≤ j) (hz : ws[j]? = some z) (hn : z ∉ sides) : beginAt ws = .error j := by
  have hlt : j < ws.length := (List.getElem?_eq_some_iff.mp hz).1
  have e : ws.drop 2 = (ws.drop 2).take (j - 2) ++ z :: ws.drop (j + 1) := by
    conv => lhs; rw [← List.take_append_drop (j - 2) (ws.drop 2)]
    rw [List.drop_drop, show 2 + (j - 2) = j by omega, List.drop_eq_getElem_cons hlt, Option.some.inj ((List.getElem?_eq_getElem hlt).symm.trans hz)]
  have el : ((ws.drop 2).take (j - 2)).length = j - 2 := by
    rw [List.length_take, List.length_drop]
    omega
  have q := sidesL_bad _ z (ws.drop (j + 1)) 2 h hn
  rw [← e, el, show 2 + (j - 2) = j by omega] at q
  rw [begin_eq ws w h1, if_pos hs]
  cases q2 : ws.drop 2 with
  | nil =>
    have := congrArg List.length q2
    rw [List.length_drop] at this
    simp at this
    omega
  | cons a r =>
    rw [q2] at q
    simp only [q]
theorem begin_two {ws : List Str} {w : Str} (h1 : ws[1]? = some w) (hs : isSig knS w = true) (h : ws.length ≤ 2) : beginAt ws = .error 2 := by
  rw [begin_eq ws w h1, if_pos hs, List.drop_of_length_le h]
theorem begin_sig {ws : List Str} {w : Str} (h1 : ws[1]? = some w) (hs : isSig knS w = false) : beginAt ws = .error 1 := by
  rw [begin_eq ws w h1, if_neg (by rw [hs]; exact Bool.false_ne_true)]
theorem wrongL_cons (d : List PyData) (r : List (List PyData)) (k : Nat) : wrongL (d :: r) k = if goodIns d = false ∨ k = 20 then some k else wrongL r (k + 1) := rfl
end Om
end PartPL5
section PartA10
set_option Elab.async false
set_option linter.all false
set_option maxRecDepth 100000
set_option maxHeartbeats 400000
namespace Om
open PySem PySem.Spec PyProof.Rows L2 He TL
section
variable {w : World} {K : Frg} {mg : Str → Option Value} {base : Heap}
def sp_read_begin (K : Frg) : Sp := fun vs H Q E => ∃ (a : Addr) (n : Int) (ws : List Str) (dx wa : Addr), vs = [.ref a] ∧ LnX K H a n ws 0 dx wa ∧ OkW ws ∧ ws.length ≤ 1000 ∧ ws[0]? = some ("from" : Str) ∧
  (∀ z l, beginAt ws = .ok (z, l) → ∀ p H', Ky [a] H H' → (∃ b, SqT K H' p [.str z, .ref b] ∧ SqT K H' b (l.map V.int)) → Q (.ref p) H') ∧ (∀ k, beginAt ws = .error k → Fails K [a] H n k E)
theorem sc_read_begin : FnScope ["line", "signs", "facings"] ["line"] (defScope s_read_begin) := ⟨rfl, rfl, rfl, by decide +kernel, rfl, by decide +kernel, by decide +kernel⟩
theorem ok_read_begin (T : Tx w K mg) : FnOk prg w K mg base (L2.CX prg w) 7 (ga K "read_begin") (fdOf K (ga K "read_begin")) ["line"] (sp_read_begin K) := by
  refine T.f_read_begin.ok sc_read_begin (fun vs H Q E h => ?_) (fun cdv A outer s H vs Q E hr h => ?_)
  · obtain ⟨a, n, ws, dx, wa, rfl, _⟩ := h
    rfl
  · obtain ⟨a, n, ws, dx, wa, rfl, hl, ok, hz, hh, q, f⟩ := h
    refine ⟨_, (pss_cons (ps_expr (SlX.pe_methSl (pv 0) T.ln T.m_Line_take_word ((ok_Line_take_word T).raw T.p_Line_take_word .nil) (hr.mono (by decide)) (passes_call (takes_of rfl rfl rfl rfl) fun _ _ _ _ z => z) (pa_cons (pe_tup (pa_cons (pe_glob (v := .str _) (by rfl) T.c_FROM.choose_spec ⟨_, rfl⟩) pa_nil)) pa_nil)))
      (pss_cons (ps_set (i := 1) sc_read_begin.nd rfl (Or.inl rfl) (SlX.pe_methSl (pv 0) T.ln T.m_Line_take_signs ((ok_Line_take_signs T).raw T.p_Line_take_signs .nil) (hr.mono (by decide)) (passes_call (takes_of rfl rfl rfl rfl) fun _ _ _ _ z => z) (pa_cons (pe_op op_add_str (pe_glob (v := .str _) (by rfl) T.c_LAND.choose_spec ⟨_, rfl⟩) (pe_glob (v := .str _) (by rfl) T.c_LETTERS.choose_spec ⟨_, rfl⟩)) pa_nil)))
      (pss_cons (ps_set (i := 2) sc_read_begin.nd rfl (Or.inl rfl) (pe_lst (pa_cons (pe_bm PySem.F.plainAttrs_tuple PySem.F.slot_tuple_index PySem.F.type_tuple_index mt_tup_index (pe_glob (v := .ref _) (by rfl) T.g_FACINGS rfl) (pa_cons (SlX.pe_methSl (pv 0) T.ln T.m_Line_take_word ((ok_Line_take_word T).raw T.p_Line_take_word .nil) (hr.mono (by decide)) (passes_call (takes_of rfl rfl rfl rfl) fun _ _ _ _ z => z) (pa_cons (pe_glob (v := .ref _) (by rfl) T.g_FACINGS rfl) pa_nil)) pa_nil)) pa_nil)))
      (pss_cons (ps_while (passes_of rfl) (pt_not (pt_val (SlX.pe_methSl0 (pv 0) T.ln T.m_Line_is_over ((ok_Line_is_over T).raw T.p_Line_is_over .nil) (hr.mono (by decide)) pass0))) (pss_one (ps_expr (pe_bm PySem.F.plainAttrs_list PySem.F.slot_list_append PySem.F.type_list_append mt_append (pv 2) (pa_cons (pe_bm PySem.F.plainAttrs_tuple PySem.F.slot_tuple_index PySem.F.type_tuple_index mt_tup_index (pe_glob (v := .ref _) (by rfl) T.g_FACINGS rfl) (pa_cons (SlX.pe_methSl (pv 0) T.ln T.m_Line_take_word ((ok_Line_take_word T).raw T.p_Line_take_word .nil) (hr.mono (by decide)) (passes_call (takes_of rfl rfl rfl rfl) fun _ _ _ _ z => z) (pa_cons (pe_glob (v := .ref _) (by rfl) T.g_FACINGS rfl) pa_nil)) pa_nil)) pa_nil)))))
      (pss_one (ps_ret (pe_tup (pa_cons (pv 1) (pa_cons (pe_callTy call_tuple_of (by rfl) T.b_tuple boot_tuple (pa_cons (pv 2) pa_nil)) pa_nil))))))))), ?_⟩
    obtain ⟨hdx, hwa, hwd, hs, hw⟩ := hl.slt
    have sqF : ∀ H', SqT K H' (ga K "FACINGS") (sides.map V.str) := fun H' => tupAt_ok T.t_FACINGS H'
    have tyF : ∀ H', tyV K "tuple" (.ref (ga K "FACINGS")) H' := fun H' => .inr (.inl ⟨rfl, tupAt_ty T.t_FACINGS⟩)
    have less : ∀ {H1 : Hp} {k : Nat}, Ky [a] H H1 → beginAt ws = .error k → Fails K [a] H1 n k E := fun kk e => (f _ e).go kk
    refine ⟨_, rfl, a, dx, _, rfl, hs, Evl.sz_of (by simp), fun p hp => ?_⟩
    have xp := ex_new (o := .tup [V.str "from"]) hp
    have hpt : SqT K (upd H p (.tup [V.str "from"])) p ((["from"] : List Str).map V.str) := .of upd_same
    generalize upd H p (.tup [V.str "from"]) = H0 at xp hpt ⊢
    refine ⟨a, p, n, 0, ws, (["from"] : List Str), dx, wa, rfl, hl.ex xp, hpt, fun z hz0 hm H1 k1 l1 => ?_, fun hb => absurd (hb _ hh) (by simp)⟩
    have kk1 : Ky [a] H H1 := (Ky.of xp).trans k1
    obtain ⟨_, _, _, hs1, hw1⟩ := l1.slt
    refine ⟨_, rfl, a, dx, _, rfl, hs1, _, _, rfl, rfl, by decide +kernel, a, _, n, 1, ws, dx, wa, rfl, l1, ok, fun z1 hz1 hsig H2 k2 l2 => ?_, fun hb => less kk1 ?_⟩
    · rw [e_knS] at hsig
      have kk2 := kk1.trans k2
      obtain ⟨_, _, _, hs2, hw2⟩ := l2.slt
      refine ⟨tyF _, _, rfl, a, dx, _, rfl, hs2, a, ga K "FACINGS", n, 2, ws, sides, dx, wa, rfl, l2, sqF _, fun z2 hz2 hm2 H3 k3 l3 => ?_, fun hb => less kk2 ?_⟩
      · obtain ⟨i2, g1, g2, g3, g4⟩ := side_in z2 hm2
        have kk3 := kk2.trans k3
        refine ⟨_, sides, z2, i2, rfl, rfl, sqF _, g2, g3, by simp [sizeLine_eq], fun r hr => ?_⟩
        have hrH : H r = none := kk3.fresh hr (by
          intro hm
          rw [List.mem_singleton.mp hm] at hr
          obtain ⟨q1, _⟩ := l3
          rw [hr] at q1
          cases q1)
        have S0 : SideTo ws 2 := fun y hy => by
          rw [Nat.sub_self, List.take_zero] at hy
          cases hy
        obtain ⟨S1, e1⟩ := sideTo_succ S0 (Nat.le_refl 2) hz2 hm2
        have hk : 2 < ws.length := (List.getElem?_eq_some_iff.mp hz2).1
        let W : Nat → L2.St → Hp → Prop := fun m σ H2 => ∃ (j : Nat), m = ws.length - j ∧ 2 < j ∧ j ≤ ws.length ∧ SideTo ws j ∧ σ = [some (V.ref a), some (V.str z1), some (V.ref r)] ∧ H2 r = some (.lst ((((ws.drop 2).take (j - 2)).map sideV).map V.int)) ∧ Ky [a] H H2 ∧ LnX K H2 a n ws j dx wa
        refine ⟨W, ⟨_, 3, rfl, Nat.lt_succ_self 2, hk, S1, rfl, ?_, kk3.trans (.new hr), l3.ex (ex_new hr)⟩, ?_⟩
        · rw [e1, Nat.sub_self, List.take_zero]
          show upd H3 r (.lst [V.int (i2 : Int)]) r = some (.lst [V.int (sideV z2)])
          rw [g4]
          exact upd_same
        · intro m σ H4 hW
          obtain ⟨j, rfl, hkj, hj, hN, rfl, hr4, kk4, l4⟩ := hW
          obtain ⟨_, _, _, hs4, hw4⟩ := l4.slt
          refine ⟨_, rfl, a, dx, _, rfl, hs4, a, n, j, ws, rfl, l4.w, _, rfl, ?_⟩
          refine ifB (fun e => ?_) (fun e => ?_)
          · have hjl : j < ws.length := by
              have e2 : decide ((ws.length : Int) ≤ j) = false := by simpa using e
              have := of_decide_eq_false e2
              omega
            refine ⟨fun σ' H' => ∃ m', m' < ws.length - j ∧ W m' σ' H', fun _ _ h => h, ?_⟩
            refine ⟨_, rfl, .inl ⟨rfl, _, .of hr4⟩, tyF _, _, rfl, a, dx, _, rfl, hs4, a, ga K "FACINGS", n, j, ws, sides, dx, wa, rfl, l4, sqF _, fun z5 hz5 hm5 H5 k5 l5 => ?_, fun hb => less kk4 ?_⟩
            · obtain ⟨i5, f1, f2, f3, f4⟩ := side_in z5 hm5
              obtain ⟨S2, e2⟩ := sideTo_succ hN (Nat.le_of_lt hkj) hz5 hm5
              have kS5 : ∀ s ∈ [a], ∃ n ws k, LnW K H4 s n ws k := fun s hs => by rw [List.mem_singleton.mp hs]; exact ⟨_, _, _, l4.w⟩
              have hr5 := lst_keep hr4 k5 kS5
              refine ⟨_, sides, z5, i5, rfl, rfl, sqF _, f2, f3, r, _, .int i5, rfl, rfl, hr5, Evl.sz_lt (by rw [List.length_map, List.length_map, List.length_take, List.length_drop]; omega), ws.length - (j + 1), by omega, j + 1, rfl, by omega, hjl, S2, rfl, ?_, (kk4.trans k5).mut hrH, l5.put l3 hr⟩
              rw [e2, List.map_append, List.map_append]
              show upd H5 r _ r = some (.lst (_ ++ [V.int (sideV z5)]))
              rw [f4]
              exact upd_same
            · have hz5 : ws[j]? = some ws[j] := List.getElem?_eq_getElem hjl
              exact begin_stop hz1 hsig hN (Nat.le_of_lt hkj) hz5 (hb _ hz5)
          · have hjl : ws.length ≤ j := by
              have e2 : decide ((ws.length : Int) ≤ j) = true := by simpa using e
              have := of_decide_eq_true e2
              omega
            refine ⟨_, rfl, _, rfl, r, _, rfl, .inl ⟨.of hr4, fun t ht => ⟨by simp [sizeLine_eq], fun p2 hp2 => q z1 _ (begin_done hz1 hsig hN hjl hk) p2 _ ((kk4.trans (.new ht)).trans (.new hp2)) ⟨t, .of upd_same, Evl.ex_t (ex_new hp2) (.of upd_same)⟩⟩⟩⟩
      · cases e : ws[2]? with
        | none => exact begin_two hz1 hsig (List.getElem?_eq_none_iff.mp e)
        | some z2 => exact begin_stop hz1 hsig (fun y hy => by rw [Nat.sub_self, List.take_zero] at hy; cases hy) (Nat.le_refl 2) e (hb z2 e)
    · rw [e_knS] at hb
      cases e : ws[1]? with
      | none => exact begin_short e
      | some z1 => exact begin_sig e (hb z1 e)
end
end Om
end PartA10
section PartB4
set_option Elab.async false
set_option linter.all false
set_option maxRecDepth 100000
set_option maxHeartbeats 400000
namespace Om
open PySem PySem.Spec PyProof.Rows L2 He TL
def baD (r : Except Nat (Str × List Int)) : PyData := match r with
  | .ok (s, l) => .tuple [.str s, intsD l]
  | .error e => .int e
section
variable {w : World} {K : Frg} {mg : Str → Option Value} {base : Heap}
/-- _law_begin_at -/
def sp__law_begin_at (K : Frg) : Sp := fun vs H Q _ => ∃ (wa : Addr) (ws : List Str), vs = [.ref wa] ∧ H wa = some (.lst (ws.map V.str)) ∧ OkW ws ∧ ws.length ≤ 1000 ∧
  ∀ v H', Ex H H' → Dp K H' v (baD (beginAt ws)) → Q v H'
theorem sc__law_begin_at : FnScope ["_law_words", "_law_sides", "_law_wrong", "_law_k", "_law_word"] ["_law_words"] (defScope s__law_begin_at) := ⟨rfl, rfl, rfl, by decide +kernel, rfl, by decide +kernel, by decide +kernel⟩
theorem ok__law_begin_at (T : Tx w K mg) : FnOk prg w K mg base CX0 3 (ga K "_law_begin_at") (fdOf K (ga K "_law_begin_at")) ["_law_words"] (sp__law_begin_at K) := by
  refine T.f__law_begin_at.ok sc__law_begin_at (fun vs H Q E h => ?_) (fun cdv A outer s H vs Q E hr h => ?_)
  · obtain ⟨wa, ws, rfl, _⟩ := h
    rfl
  · obtain ⟨wa, ws, rfl, hw, ok, hz, q⟩ := h
    refine ⟨_, PSs.nox (pss_cons (ps_if (PW.pt (pw_or (pt_cmpR op_lt (pe_callB call_len_seq (by rfl) T.b_len PySem.boot_len (pa_cons (pv 0) pa_nil)) pe_int (nomark _)) (pw_or1 (pt_not (pt_val (pe_call (ok__law_is_signs T) (hr.mono (by decide)) (by rfl) T.g__law_is_signs T.f__law_is_signs.kp T.p__law_is_signs .nil pass0 (pa_cons (pe_ix ix_list (pv 0) pe_int (fun _ _ => rfl)) (pa_cons pe_bl pa_nil)))))))) (pss_one (ps_ret pe_int)) pss_nil)
      (pss_cons (ps_set (i := 1) sc__law_begin_at.nd rfl (Or.inr rfl) (pe_lst (pa_cons pe_str (pa_cons pe_str (pa_cons pe_str (pa_cons pe_str pa_nil))))))
      (pss_cons (ps_setLc (i := 2) (own := [("_law_k", 3)]) (g := gName 3) rfl sc__law_begin_at.nd rfl rfl (sw_true rfl rfl rfl (by decide +kernel)) (pi_range2 (by rfl) T.b_range (pa_cons pe_int (pa_cons (pe_callB call_len_seq (by rfl) T.b_len PySem.boot_len (pa_cons (pv 0) pa_nil)) pa_nil))) (blkOk_by (own := [("_law_k", 3)]) (N := ["_law_words", "_law_sides", "_law_wrong", "_law_k", "_law_word"]) (sc := defScope s__law_begin_at) (by decide +kernel)) (fun _ _ _ _ _ => pg_name (i := 3) sc__law_begin_at.nd rfl (Or.inl rfl)) (fun _ _ _ _ _ => pts_one (pt_cmpR (kOp (K := K) (r := fun K => rIn K true) rfl op_notIn_seq) (pe_ix (kIx (K := K) (r := rIxL) rfl ix_list) (pv 0) (pv 3) (fun _ _ => rfl)) (pv 1) (by rfl))) (fun _ _ _ _ _ => (pv 3)))
      (pss_cons (ps_if (PW.pt (pw_or (pt_cmpR (op_neD hr.units) (pv 2) (pe_lst pa_nil) (nomark _)) (pw_or1 (pt_cmpR op_lt (pe_callB call_len_seq (by rfl) T.b_len PySem.boot_len (pa_cons (pv 0) pa_nil)) pe_int (nomark _))))) (pss_one (ps_ret (pe_ifExp (pt_cmpR (op_neD hr.units) (pv 2) (pe_lst pa_nil) (nomark _)) (pe_ix ix_list (pv 2) pe_int (fun _ _ => rfl)) pe_int))) pss_nil)
      (pss_one (ps_ret (pe_tup (pa_cons (pe_ix ix_list (pv 0) pe_int (fun _ _ => rfl)) (pa_cons (pe_callTy call_tuple_of (by rfl) T.b_tuple boot_tuple (pa_cons (pe_lc (own := [("_law_word", 4)]) (g := gName 4) rfl sc__law_begin_at.nd (pi_list (pe_slice sl_list (pv 0) (po_some pe_int) po_none)) (blkOk_by (own := [("_law_word", 4)]) (N := ["_law_words", "_law_sides", "_law_wrong", "_law_k", "_law_word"]) (sc := defScope s__law_begin_at) (by decide +kernel)) (fun _ _ _ _ _ => pg_name (i := 4) sc__law_begin_at.nd rfl (Or.inl rfl)) (fun _ _ _ _ _ => pts_nil) (fun _ _ _ _ _ => (pe_bmK (K := K) rfl PySem.F.plainAttrs_list PySem.F.slot_list_index PySem.F.type_list_index (kMt (K := K) (r := rIndex) rfl mt_index) (pv 1) (pa_cons (pv 4) pa_nil)))) pa_nil)) pa_nil))))))))), ?_⟩
    have hl2 : ∀ {H' : Hp}, Ex H H' → SqL K H' wa (ws.map V.str) := fun x => .of (x _ _ hw)
    have ret : ∀ {H' : Hp} {i : Nat}, Ex H H' → beginAt ws = .error i → Q (.int i) H' := fun x e => q _ _ x (by rw [e]; exact .int _)
    refine ⟨_, rfl, wa, _, rfl, .inl (hl2 (Evl.Ex.refl H)), _, _, rfl, rfl, _, rfl, ?_⟩
    rw [List.length_map]
    refine ifB (fun e => ?_) (fun e => ?_)
    · have e1 := of_decide_eq_true e
      exact iteT (ret (i := 1) (Evl.Ex.refl H) (begin_short (List.getElem?_eq_none (by omega))))
    have e1 : 2 ≤ ws.length := by
      have := of_decide_eq_false e
      omega
    have hz1 : ws[1]? = some ws[1] := List.getElem?_eq_getElem e1
    obtain ⟨okz, szz⟩ := ok _ (List.getElem_mem e1)
    have h1at : atI (ws.map V.str) 1 = some (.str ws[1]) := atI_nat (j := 1) (by rw [List.getElem?_map, hz1]; rfl)
    generalize ws[1] = z at hz1 okz szz h1at
    refine ⟨_, rfl, wa, _, 1, .str z, rfl, rfl, hl2 (Evl.Ex.refl H), h1at, z, false, rfl, okz, szz, fun b H1 eb x1 => ⟨_, rfl, ?_⟩⟩
    refine ifB (fun e2 => ?_) (fun e2 => ?_)
    · rw [eb] at e2
      exact ret (i := 1) x1 (begin_sig hz1 (by simpa using e2))
    have hsig : isSig knS z = true := by
      rw [eb] at e2
      simpa using e2
    refine ⟨Evl.sz_of (by simp), fun p hp => ?_⟩
    have x2 := x1.trans (ex_new (o := .lst [.str (Str.ofString "north"), .str (Str.ofString "east"), .str (Str.ofString "south"), .str (Str.ofString "west")]) hp)
    have hp2 : upd H1 p (.lst [.str (Str.ofString "north"), .str (Str.ofString "east"), .str (Str.ofString "south"), .str (Str.ofString "west")]) p = some (.lst (sides.map V.str)) := upd_same
    generalize upd H1 p (.lst [.str (Str.ofString "north"), .str (Str.ofString "east"), .str (Str.ofString "south"), .str (Str.ofString "west")]) = H2 at x2 hp2 ⊢
    refine ⟨_, rfl, wa, _, rfl, .inl (hl2 x2), 2, _, rfl, ⟨by decide, by decide, ?_, ?_⟩, fun D hD => lcR (K := K) (fun k => !decide ((ws.getD k.toNat Str.empty) ∈ sides)) hD ?_ (fun _ => rfl) rfl (fun i H3 Pt hi x3 hp3 => ?_) ?_⟩
    · rw [List.length_map]; omega
    · rw [List.length_map]; omega
    · rw [List.length_map]; omega
    · rw [List.length_map] at hi
      have hi2 : 2 + i < ws.length := by omega
      have t1 : (2 + (i : Int)).toNat = 2 + i := by omega
      rw [t1, List.getD_eq_getElem?_getD, List.getElem?_eq_getElem hi2] at hp3
      refine ⟨_, rfl, _, rfl, wa, _, _, .str ws[2 + i], rfl, rfl, hl2 (x2.trans x3), ?_, _, rfl, p, _, rfl, .inl (.of (x3 _ _ hp2)), rfl, flat_str sides, _, rfl, ?_⟩
      · rw [show 2 + (i : Int) = ((2 + i : Nat) : Int) by omega]
        exact atI_nat (by rw [List.getElem?_map, List.getElem?_eq_getElem hi2]; rfl)
      · show Pt (!inV (V.str ws[2 + i]) (sides.map V.str)) H3
        rw [inV_str]
        exact hp3
    · intro H3 x3 hn
      have x4 := x2.trans x3
      have hnn : ((((ws.map V.str).length : Nat) : Int) - 2).toNat = ws.length - 2 := by rw [List.length_map]; omega
      rw [hnn] at hn
      have hwr : ∀ {k : Int} {r : List Int}, (rng 2 (ws.length - 2)).filter (fun k => !decide ((ws.getD k.toNat Str.empty) ∈ sides)) = k :: r → ∃ j : Nat, k = j ∧ beginAt ws = .error j := fun {k r} h => by
        obtain ⟨h1, h2, h3, h4⟩ := filter_first _ _ _ _ h
        have hj : k.toNat < ws.length := by omega
        refine ⟨k.toNat, by omega, begin_stop hz1 hsig (fun y hy => ?_) (by omega) (List.getElem?_eq_getElem hj) ?_⟩
        · obtain ⟨i, hi, e⟩ := List.getElem_of_mem hy
          rw [List.getElem_take, List.getElem_drop] at e
          rw [List.length_take, List.length_drop] at hi
          have := h4 ((2 + i : Nat) : Int) (by omega) (by omega)
          rw [Int.toNat_natCast, List.getD_eq_getElem?_getD, List.getElem?_eq_getElem (by omega)] at this
          rw [← e]
          simpa using this
        · rw [List.getD_eq_getElem?_getD, List.getElem?_eq_getElem hj] at h3
          simpa using h3
      have hall : (rng 2 (ws.length - 2)).filter (fun k => !decide ((ws.getD k.toNat Str.empty) ∈ sides)) = [] → SideTo ws ws.length := fun h y hy => by
        obtain ⟨i, hi, e⟩ := List.getElem_of_mem hy
        rw [List.getElem_take, List.getElem_drop] at e
        rw [List.length_take, List.length_drop] at hi
        have := filter_all h (m := ((2 + i : Nat) : Int)) (by omega) (by omega)
        rw [Int.toNat_natCast, List.getD_eq_getElem?_getD, List.getElem?_eq_getElem (by omega)] at this
        rw [← e]
        simpa using this
      generalize (rng 2 (ws.length - 2)).filter (fun k => !decide ((ws.getD k.toNat Str.empty) ∈ sides)) = wr at hn hwr hall
      refine ⟨_, rfl, by decide, fun p4 hp4 => nil_ne (hn.ex (ex_new hp4)) upd_same ⟨_, rfl, ?_⟩⟩
      have x5 := x4.trans (ex_new (o := .lst []) hp4)
      have hn5 := hn.ex (ex_new (o := .lst []) hp4)
      have hp5 := ex_new (o := .lst []) hp4 _ _ (x3 _ _ hp2)
      generalize upd H3 p4 (.lst []) = H5 at x5 hn5 hp5 ⊢
      have hn6 := hn5
      obtain ⟨xs, hxs, hdx, _⟩ := hn5
      have hxe := dps_int_eq hdx
      subst hxe
      cases wr with
      | cons k r =>
        obtain ⟨j, rfl, hb⟩ := hwr rfl
        refine iteT ⟨_, rfl, by decide, fun p5 hp5 => nil_ne (hn6.ex (ex_new hp5)) upd_same ⟨_, rfl, iteT ?_⟩⟩
        exact ⟨_, rfl, D, _, 0, .int j, rfl, rfl, .of (ex_new hp5 _ _ hxs), atI_nat (j := 0) rfl, ret (x5.trans (ex_new hp5)) hb⟩
      | nil =>
        refine iteF ⟨_, rfl, wa, _, rfl, .inl (hl2 x5), _, _, rfl, rfl, _, rfl, ?_⟩
        rw [List.length_map]
        refine ifB (fun e3 => ?_) (fun e3 => ?_)
        · have e4 := of_decide_eq_true e3
          refine ⟨_, rfl, by decide, fun p5 hp5 => nil_ne (hn6.ex (ex_new hp5)) upd_same ⟨_, rfl, iteF ?_⟩⟩
          exact ret (i := 2) (x5.trans (ex_new hp5)) (begin_two hz1 hsig (by omega))
        · have e4 : 2 < ws.length := by
            have := of_decide_eq_false e3
            omega
          have hb := begin_done hz1 hsig (hall rfl) (Nat.le_refl _) e4
          have htk : (ws.drop 2).take (ws.length - 2) = ws.drop 2 := List.take_of_length_le (by rw [List.length_drop]; omega)
          have hin : ∀ y ∈ ws.drop 2, y ∈ sides := fun y hy => hall rfl y (by rw [htk]; exact hy)
          rw [htk] at hb
          refine ⟨_, rfl, wa, _, 1, .str z, rfl, rfl, hl2 x5, h1at, ?_⟩
          refine ⟨_, rfl, _, rfl, wa, _, rfl, hl2 x5, fun sl hsl => ?_⟩
          rw [show cutV (ws.map V.str) (some 2) none = (ws.drop 2).map V.str from (cutV_from _ 2).trans (by rw [List.map_drop])]
          have x6 := ex_new (o := .lst ((ws.drop 2).map V.str)) hsl
          have hsl6 : upd H5 sl (.lst ((ws.drop 2).map V.str)) sl = some (.lst ((ws.drop 2).map V.str)) := upd_same
          generalize upd H5 sl (.lst ((ws.drop 2).map V.str)) = H6 at x6 hsl6 ⊢
          refine ⟨sl, rfl, ⟨_, .of hsl6⟩, fun D2 hD2 => lcD (K := K) (S := []) (walk_list (K := K) (a := sl) (xs := (ws.drop 2).map V.str)) hD2 (fun _ => True) (fun i ds => ds = (((ws.drop 2).take i).map sideV).map PyData.int) (by simp) (by rw [List.length_map, List.length_drop]; omega) (fun _ _ _ => trivial) (fun _ k1 _ => .of (k1.ex _ _ hsl6)) trivial rfl ?_ ?_⟩
          · intro i x H7 H8 ds P1 P2 hi hr k1 _ y c1 c2
            obtain ⟨rfl, hx⟩ := y
            rw [List.getElem?_map, Option.map_eq_some_iff] at hx
            obtain ⟨y, hy, rfl⟩ := hx
            obtain ⟨i2, g1, g2, g3, g4⟩ := side_in y (hin y (List.mem_of_getElem? hy))
            refine ⟨rfl, tY ?_⟩
            refine ⟨_, rfl, .inl ⟨rfl, _, .of (k1.ex _ _ (x6 _ _ hp5))⟩, _, rfl, p, _, .str y, i2, .str y, rfl, rfl, .of (k1.ex _ _ (x6 _ _ hp5)), rfl, flat_str sides, by rw [List.getElem?_map, g2]; rfl, by simp [eqV], fun m z' hm hz' => ?_, c1 _ (.int i2) _ (.refl _ _) trivial (.int _) (by unfold tupD; rfl) ?_⟩
            · rw [List.getElem?_map, Option.map_eq_some_iff] at hz'
              obtain ⟨y2, hy2, rfl⟩ := hz'
              have : y2 ≠ y := fun e => g3 m hm (by rw [hy2, e])
              simp [eqV, this]
            · rw [List.take_add_one, hy, List.map_append, List.map_append, hr]
              show _ = _ ++ [PyData.int (sideV y)]
              rw [g4]
          · intro H7 ds k1 _ hn7 hr7 hl7
            rw [List.length_map] at hr7
            rw [List.take_length] at hr7
            obtain ⟨ys, hys, hdy, _⟩ := hn7
            rw [hr7] at hdy
            have hye := dps_int_eq hdy
            subst hye
            have x7 := (x5.trans x6).trans k1.ex
            refine ⟨D2, _, rfl, .inl ⟨.of hys, fun t ht => ⟨Evl.sz_of (by simp), fun p8 hp8 => ?_⟩⟩⟩
            refine q _ _ ((x7.trans (ex_new ht)).trans (ex_new hp8)) ?_
            rw [hb]
            exact .tup (.of upd_same) (.cons (.str _) (.cons (.tup (Evl.ex_t (ex_new hp8) (.of upd_same)) (dps_int _)) .nil))
end
end Om
end PartB4
section PartB5
set_option Elab.async false
set_option linter.all false
set_option maxRecDepth 100000
set_option maxHeartbeats 400000
namespace Om
open PySem PySem.Spec PyProof.Rows L2 He TL
def iaD (r : Except (Nat × Nat) (List Str)) : PyData := match r with
  | .ok l => .list (l.map PyData.str)
  | .error (r, k) => .tuple [.int r, .int k]
/-- rows of words, lists in a list -/
def RwL (H : Hp) (ra : Addr) (rws : List (List Str)) : Prop := ∃ las : List Addr, H ra = some (.lst (las.map V.ref)) ∧ las.length = rws.length ∧ ∀ (j : Nat) (ws : List Str), rws[j]? = some ws → ∃ a, las[j]? = some a ∧ H a = some (.lst (ws.map V.str))
theorem RwL.ex {H H' : Hp} {ra : Addr} {rws : List (List Str)} (h : RwL H ra rws) (x : Ex H H') : RwL H' ra rws := by
  obtain ⟨las, h1, h2, h3⟩ := h
  exact ⟨las, x _ _ h1, h2, fun j ws e => by
    obtain ⟨a, e1, e2⟩ := h3 j ws e
    exact ⟨a, e1, x _ _ e2⟩⟩
theorem eqv_one (ws : List Str) (y : Str) : PyData.eqv (.list (ws.map PyData.str)) (.list [.str y]) = decide (ws = [y]) := by
  match ws with
  | [] => rfl
  | [a] =>
    show ((a == y) && true) = _
    rw [Bool.and_true]
    by_cases h : a = y
    · subst h
      simp
    · have : ¬ [a] = [y] := fun q => h (List.cons.inj q).1
      rw [decide_eq_false this]
      simpa using h
  | a :: b :: r =>
    have : ¬ a :: b :: r = [y] := fun q => by cases q
    rw [decide_eq_false this]
    show ((a == y) && false) = false
    rw [Bool.and_false]
theorem nil_neT {K : Frg} {H : Hp} {a p : Addr} {l : List Str} {Q : VK} (h : SqT K H a (l.map V.str)) (ok : ∀ x ∈ l, PyData.strOk x = true) (hp : H p = some (.tup [])) (k : Q (.bl (!l.isEmpty)) H) : rNeD K (.ref a) (.ref p) H Q :=
  ⟨.tuple (l.map PyData.str), .tuple [], .tup h (dps_str l), .tup (.of hp) .nil, shaped_tup (tupDs_str 1 ok) (by decide), rfl, by
    rw [eqv_nilT]
    have : (l.map PyData.str).isEmpty = l.isEmpty := by cases l <;> rfl
    rw [this]
    exact k⟩
theorem e_knI2 : tl (".~ABCDEFGHIJKLMNOPQRSTUVWXYZ" : Str) = knI := by decide +kernel
section
variable {w : World} {K : Frg} {mg : Str → Option Value} {base : Heap}
/-- _law_island_at -/
def sp__law_island_at (K : Frg) : Sp := fun vs H Q _ => ∃ (ra : Addr) (rws : List (List Str)), vs = [.ref ra] ∧ RwL H ra rws ∧ OkR rws ∧ rws ≠ [] ∧
  ∀ v H', Ex H H' → Dp K H' v (iaD (islandAt rws)) → Q v H'
theorem sc__law_island_at : FnScope ["_law_rows_here", "_law_found", "_law_k", "_law_word", "_law_good", "_law_sign_here"] ["_law_rows_here"] (defScope s__law_island_at) := ⟨rfl, rfl, rfl, by decide +kernel, rfl, by decide +kernel, by decide +kernel⟩
theorem ok__law_island_at (T : Tx w K mg) : FnOk prg w K mg base CX0 1 (ga K "_law_island_at") (fdOf K (ga K "_law_island_at")) ["_law_rows_here"] (sp__law_island_at K) := by
  refine T.f__law_island_at.ok sc__law_island_at (fun vs H Q E h => ?_) (fun cdv A outer s H vs Q E hr h => ?_)
  · obtain ⟨ra, rws, rfl, _⟩ := h
    rfl
  · obtain ⟨ra, rws, rfl, hr0, ok, hne, q⟩ := h
    refine ⟨_, PSs.nox (pss_cons (ps_if (pt_cmpR (op_neD hr.units) (pe_ix ix_list (pv 0) pe_int (fun _ _ => rfl)) (pe_lst (pa_cons pe_str pa_nil)) (nomark _)) (pss_one (ps_ret (pe_tup (pa_cons pe_int (pa_cons (pe_ifExp (pt_cmpR op_ne (pe_ix ix_list (pe_ix ix_list (pv 0) pe_int (fun _ _ => rfl)) pe_int (fun _ _ => rfl)) pe_str (nomark _)) pe_int pe_int) pa_nil))))) pss_nil)
      (pss_cons (ps_set (i := 1) sc__law_island_at.nd rfl (Or.inl rfl) (pe_tup pa_nil))
      (pss_cons (ps_for PassesOwn.never rfl (pi_range2 (by rfl) T.b_range (pa_cons pe_int (pa_cons (pe_callB call_len_seq (by rfl) T.b_len PySem.boot_len (pa_cons (pv 0) pa_nil)) pa_nil))) (pg_name (i := 2) sc__law_island_at.nd rfl (Or.inl rfl)) (pss_cons (ps_set (i := 3) sc__law_island_at.nd rfl (Or.inl rfl) (pe_ix ix_list (pe_ix ix_list (pv 0) (pv 2) (fun _ _ => rfl)) pe_int (fun _ _ => rfl)))
      (Evl.pss_cut (ps_if (PW.pt (pw_and (pt_cmpR op_eq (pv 3) pe_str (nomark _)) (pw_and1 (pt_cmpR (op_neD hr.units) (pv 1) (pe_tup pa_nil) (nomark _))))) (pss_one (ps_ret (pe_callTy call_list_of (by rfl) T.b_list boot_list (pa_cons (pv 1) pa_nil)))) pss_nil)
      (pss_cons (ps_set (i := 4) sc__law_island_at.nd rfl (Or.inl rfl) (pe_cmpR (op_eqD hr.units) (pe_lc (own := [("_law_sign_here", 5)]) (g := gName 5) rfl sc__law_island_at.nd (pi_str (pv 3)) (blkOk_by (own := [("_law_sign_here", 5)]) (N := ["_law_rows_here", "_law_found", "_law_k", "_law_word", "_law_good", "_law_sign_here"]) (sc := defScope s__law_island_at) (by decide +kernel)) (fun _ _ _ _ _ => pg_name (i := 5) sc__law_island_at.nd rfl (Or.inl rfl)) (fun _ _ _ _ _ => pts_one (pt_cmpR op_notIn_sign (pv 5) pe_str (by rfl))) (fun _ _ _ _ _ => (pv 5))) (pe_lst pa_nil) (nomark _)))
      (Evl.pss_cut (ps_if (PW.pt (pw_or (pt_not (pt_val (pv 4))) (pw_or (pt_not (pt_chain op_le op_le pe_int (pe_callB call_len_str (by rfl) T.b_len PySem.boot_len (pa_cons (pv 3) pa_nil)) pe_int)) (pw_or (pt_cmpR op_eq (pe_callB call_len_seq (by rfl) T.b_len PySem.boot_len (pa_cons (pv 1) pa_nil)) pe_int (nomark _)) (pw_or1 (PW.pt (pw_and (pt_cmpR (op_neD hr.units) (pv 1) (pe_tup pa_nil) (nomark _)) (pw_and1 (pt_cmpR op_ne (pe_callB call_len_str (by rfl) T.b_len PySem.boot_len (pa_cons (pv 3) pa_nil)) (pe_callB call_len_str (by rfl) T.b_len PySem.boot_len (pa_cons (pe_ix ix_tup (pv 1) pe_int (fun _ _ => rfl)) pa_nil)) (nomark _)))))))))) (pss_one (ps_ret (pe_tup (pa_cons (pv 2) (pa_cons pe_int pa_nil))))) pss_nil)
      (pss_cons (ps_if (pt_cmpR op_gt (pe_callB call_len_seq (by rfl) T.b_len PySem.boot_len (pa_cons (pe_ix ix_list (pv 0) (pv 2) (fun _ _ => rfl)) pa_nil)) pe_int (nomark _)) (pss_one (ps_ret (pe_tup (pa_cons (pv 2) (pa_cons pe_int pa_nil))))) pss_nil)
      (pss_one (ps_set (i := 1) sc__law_island_at.nd rfl (Or.inl rfl) (pe_op op_catA (pv 1) (pe_tup (pa_cons (pv 3) pa_nil)))))))))))
      (pss_one (ps_ret (pe_tup (pa_cons (pe_callB call_len_seq (by rfl) T.b_len PySem.boot_len (pa_cons (pv 0) pa_nil)) (pa_cons pe_int pa_nil)))))))), ?_⟩
    obtain ⟨r0, rr, hrr⟩ : ∃ r0 rr, rws = r0 :: rr := by
      cases rws with
      | nil => exact absurd rfl hne
      | cons a r => exact ⟨a, r, rfl⟩
    have row : ∀ {H' : Hp} {j : Nat} {ws : List Str}, Ex H H' → rws[j]? = some ws → ∃ las a, H' ra = some (.lst (List.map V.ref las)) ∧ las.length = rws.length ∧ atI (List.map V.ref las) (j : Int) = some (.ref a) ∧ H' a = some (.lst (ws.map V.str)) := fun {H' j ws} x e => by
      obtain ⟨las, h1, h2, h3⟩ := hr0.ex x
      obtain ⟨a, e1, e2⟩ := h3 j ws e
      exact ⟨las, a, h1, h2, atI_nat (by rw [List.getElem?_map, e1]; rfl), e2⟩
    have fail : ∀ {H' : Hp} {r k : Nat} {p : Addr}, Ex H H' → H' p = none → islandAt rws = .error (r, k) → Q (.ref p) (upd H' p (.tup [.int r, .int k])) := fun {H' r k p} x hp e => q _ _ (x.trans (ex_new hp)) (by rw [e]; exact .tup (.of upd_same) (.cons (.int _) (.cons (.int _) .nil)))
    obtain ⟨r0n, r0l, r0w⟩ := ok.2 r0 (by rw [hrr]; exact .head _)
    obtain ⟨a0, a0r, hr00⟩ : ∃ a0 a0r, r0 = a0 :: a0r := by
      cases r0 with
      | nil => exact absurd rfl r0n
      | cons a r => exact ⟨a, r, rfl⟩
    obtain ⟨las, la0, g1, g2, g3, g4⟩ := row (j := 0) (Evl.Ex.refl H) (show rws[0]? = some r0 by rw [hrr]; rfl)
    refine ⟨_, rfl, ra, _, 0, _, rfl, rfl, .of g1, g3, by decide, fun p hp => ⟨.list (r0.map PyData.str), .list [.str "island"], .lst (.of (ex_new hp _ _ g4)) (dps_str r0), .lst (.of upd_same) (.cons (.str _) .nil), shaped_list (tupDs_str 8 fun x hx => (r0w x hx).1) (by decide), by decide +kernel, ?_⟩⟩
    rw [eqv_one]
    have xp := ex_new (o := .lst [.str (Str.ofString "island")]) hp
    generalize upd H p (.lst [.str (Str.ofString "island")]) = H1 at xp ⊢
    refine ⟨_, rfl, ?_⟩
    refine ifB (fun e => ?_) (fun e => ?_)
    · have ne : ¬ r0 = [("island" : Str)] := by simpa using e
      obtain ⟨las, la0, g1, g2, g3, g4⟩ := row (j := 0) xp (show rws[0]? = some r0 by rw [hrr]; rfl)
      refine ⟨_, rfl, _, _, 0, _, rfl, rfl, .of g1, g3, _, _, 0, .str a0, rfl, rfl, .of g4, atI_nat (j := 0) (by rw [hr00]; rfl), rfl, _, rfl, ?_⟩
      have ei : islandAt rws = .error (0, if a0 = "island" then 1 else 0) := by
        rw [hrr, islandAt_cons, if_neg ne, hr00]
        rfl
      refine ifB (fun e2 => ⟨Evl.sz_of (by simp), fun p hp => fail (r := 0) (k := 0) xp hp ?_⟩) (fun e2 => ⟨Evl.sz_of (by simp), fun p hp => fail (r := 0) (k := 1) xp hp ?_⟩)
      · have e3 : ¬ a0 = "island" := fun h => by
          rw [h] at e2
          simp at e2
        rw [ei, if_neg e3]
      · have e3 : a0 = "island" := by simpa using e2
        rw [ei, if_pos e3]
    · have eq0 : r0 = [("island" : Str)] := by simpa using e
      have ei : islandAt rws = islL rr 1 [] := by
        rw [hrr, islandAt_cons, if_pos eq0]
      rw [ei] at q fail
      refine ⟨Evl.sz_of (by simp), fun p1 hp1 => ?_⟩
      have x1 := xp.trans (ex_new (o := .tup []) hp1)
      have hp1' : SqT K (upd H1 p1 (.tup [])) p1 (([] : List Str).map V.str) := .of upd_same
      generalize upd H1 p1 (.tup []) = H2 at x1 hp1' ⊢
      obtain ⟨las2, g5, g6, _⟩ := hr0.ex x1
      have gl : ((las2.map V.ref).length : Int) = (rws.length : Int) := by rw [List.length_map, g6]
      have okl := ok.1
      refine ⟨_, rfl, ra, _, rfl, .inl (.of g5), 1, _, rfl, ⟨by decide, by decide, by omega, by omega⟩, ?_⟩
      have hn : (((las2.map V.ref).length : Int) - 1).toNat = rws.length - 1 := by omega
      rw [hn]
      refine for_range (fun i σ H' => ∃ (acc : List Str) (p : Addr) (o2 o3 o4 o5 : Option V), σ = [some (.ref ra), some (.ref p), o2, o3, o4, o5] ∧ acc.length = i ∧ SqT K H' p (acc.map V.str) ∧
          islL (rws.drop (i + 1)) (i + 1) acc = islL rr 1 [] ∧ OkW acc ∧ Ex H H') ⟨[], p1, none, none, none, none, rfl, rfl, hp1', (by rw [hrr]; rfl), (fun z hz => by cases hz), x1⟩ ?_ ?_
      · rintro i σ H' hi ⟨acc, p, o2, o3, o4, o5, rfl, hacc, hpa, hisl, okA, x2⟩
        have hj : i + 1 < rws.length := by omega
        obtain ⟨ws, hws⟩ : ∃ ws, rws[i + 1]? = some ws := ⟨_, List.getElem?_eq_getElem hj⟩
        obtain ⟨wn, wl, wok⟩ := ok.2 ws (List.mem_of_getElem? hws)
        obtain ⟨wd, wr, rfl⟩ : ∃ wd wr, ws = wd :: wr := by
          cases ws with
          | nil => exact absurd rfl wn
          | cons a r => exact ⟨a, r, rfl⟩
        obtain ⟨wd1, wd2⟩ := wok wd (.head _)
        have hdr : rws.drop (i + 1) = (wd :: wr) :: rws.drop (i + 2) := by
          rw [List.drop_eq_getElem_cons hj, Option.some.inj ((List.getElem?_eq_getElem hj).symm.trans hws)]
        rw [hdr, islL_cons] at hisl
        have ek : (1 : Int) + (i : Int) = ((i + 1 : Nat) : Int) := by omega
        rw [ek]
        obtain ⟨las3, la3, k1, k2, k3, k4⟩ := row x2 hws
        refine ⟨_, rfl, _, rfl, ra, _, _, _, rfl, rfl, .of k1, k3, la3, _, 0, .str wd, rfl, rfl, .of k4, atI_nat (j := 0) rfl, ?_⟩
        have okA1 : ∀ x ∈ acc, PyData.strOk x = true := fun x hx => (okA x hx).1
        have lwd : wd.length ≤ sizeLine := Evl.sz_of (show wd.length ≤ 100000 from Nat.le_trans (show wd.cps.size ≤ 1000 from wd2) (by decide))
        have hk1 : i + 1 < rws.length := hj
        refine ⟨fun σ' H2 => ¬ (wd = "from" ∧ acc ≠ []) ∧ σ' = [some (.ref ra), some (.ref p), some (.int ((i + 1 : Nat) : Int)), some (.str wd), o4, o5] ∧ Ex H' H2, ?_, ?_⟩
        · refine ⟨_, rfl, rfl, _, rfl, ?_⟩
          refine ifB (fun e => ?_) (fun e => ?_)
          · have ew : wd = "from" := by
              rw [vstr_eq] at e
              exact ext_tl (of_decide_eq_true e)
            refine ⟨_, rfl, Evl.sz_of (by simp), fun p2 hp2 => nil_neT (Evl.ex_t (ex_new hp2) hpa) okA1 upd_same ⟨_, rfl, ?_⟩⟩
            refine ifB (fun e2 => ?_) (fun e2 => ?_)
            · have en : acc ≠ [] := fun q => by rw [q] at e2; cases e2
              rw [if_pos ⟨ew, en⟩] at hisl
              refine ⟨_, rfl, p, _, rfl, .inr (Evl.ex_t (ex_new hp2) hpa), fun l hl => ?_⟩
              refine q _ _ (x2.trans ((ex_new hp2).trans (ex_new hl))) ?_
              rw [← hisl]
              exact .lst (.of upd_same) (dps_str acc)
            · have en : acc = [] := by cases acc with | nil => rfl | cons a s => cases e2
              exact ⟨fun h => h.2 en, rfl, ex_new hp2⟩
          · have ew : wd ≠ "from" := fun q => by
              rw [vstr_eq, q] at e
              exact absurd e (by simp)
            exact ⟨fun h => ew h.1, rfl, Evl.Ex.refl _⟩
        rintro σ' H3 ⟨hnf, rfl, x3⟩
        rw [if_neg hnf] at hisl
        have lwt : (wd.length : Int) = ((tl wd).length : Int) := by rw [len_tl]
        refine ⟨_, rfl, wd, rfl, fun D hD => lcS (K := K) (fun c => !decide (c ∈ tl (".~ABCDEFGHIJKLMNOPQRSTUVWXYZ" : Str))) hD wd1 (by omega) (fun _ => rfl) rfl (fun c H5 Pt hc x5 hp => ⟨_, rfl, c, _, rfl, rfl, _, rfl, hp⟩) ?_⟩
        intro H4 x4 hn
        refine ⟨by decide, fun p3 hp3 => nil_eq (hn.ex (ex_new hp3)) upd_same ?_⟩
        rw [filter_none]
        have ek : ((tl wd).all fun c => !(!decide (c ∈ tl (".~ABCDEFGHIJKLMNOPQRSTUVWXYZ" : Str)))) = rowKnown wd := by
          rw [e_knI2]
          simp only [Bool.not_not]
          rfl
        rw [ek]
        have x5 := (x3.trans x4).trans (ex_new (o := .lst []) hp3)
        generalize upd H4 p3 (.lst []) = H5 at x5 ⊢
        refine ⟨fun σ' H6 => badRow wd acc = false ∧ σ' = [some (.ref ra), some (.ref p), some (.int ((i + 1 : Nat) : Int)), some (.str wd), some (.bl (rowKnown wd)), o5] ∧ Ex H' H6, ?_, ?_⟩
        · have no : badRow wd acc = true → ∀ p H6, Ex H' H6 → H6 p = none → Q (.ref p) (upd H6 p (.tup [.int ((i + 1 : Nat) : Int), .int ((0 : Nat) : Int)])) := fun e p H6 x6 hp => by
            rw [if_pos e] at hisl
            exact fail (x2.trans x6) hp hisl.symm
          have yes : badRow wd acc = false → ∀ H6, Ex H' H6 → badRow wd acc = false ∧ [some (V.ref ra), some (.ref p), some (.int ((i + 1 : Nat) : Int)), some (.str wd), some (.bl (rowKnown wd)), o5] = [some (.ref ra), some (.ref p), some (.int ((i + 1 : Nat) : Int)), some (.str wd), some (.bl (rowKnown wd)), o5] ∧ Ex H' H6 := fun e H6 x6 => ⟨e, rfl, x6⟩
          rw [badRow_eq] at no yes ⊢
          have lenA : ∀ {a0 : Str} {ar : List Str}, acc = a0 :: ar → a0.length ≤ sizeLine := fun {a0 ar} e => Evl.sz_of (show a0.length ≤ 100000 from Nat.le_trans (show a0.cps.size ≤ 1000 from (okA a0 (by rw [e]; exact .head _)).2) (by decide))
          refine ⟨_, rfl, _, rfl, ?_⟩
          refine ifB (fun e1 => ?_) (fun e1 => ?_)
          · exact ⟨_, rfl, Evl.sz_of (by simp), fun p6 hp6 => no (by rw [e1]; rfl) p6 H5 x5 hp6⟩
          refine ⟨_, rfl, wd, rfl, lwd, _, _, rfl, rfl, _, rfl, ?_⟩
          have nokL : rowLong wd acc = true → ∀ p H6, Ex H' H6 → H6 p = none → Q (.ref p) (upd H6 p (.tup [.int ((i + 1 : Nat) : Int), .int ((0 : Nat) : Int)])) := fun e => no (by rw [e1, e]; rfl)
          -- len(found) == 12 or the widths differ
          refine ifB (fun e2 => ?_) (fun e2 => ?_)
          · have h1 : 1 ≤ (tl wd).length := by
              have := of_decide_eq_true e2
              omega
            refine ⟨_, _, rfl, rfl, _, rfl, ?_⟩
            refine ifB (fun e3 => ?_) (fun e3 => ?_)
            · have h2 : ¬ (tl wd).length ≤ 12 := by
                have e4 : decide ((wd.length : Int) ≤ 12) = false := by simpa using e3
                have := of_decide_eq_false e4
                omega
              exact ⟨_, rfl, Evl.sz_of (by simp), fun p6 hp6 => nokL (rowLong_out2 h2) p6 H5 x5 hp6⟩
            · have h2 : (tl wd).length ≤ 12 := by
                have e4 : decide ((wd.length : Int) ≤ 12) = true := by simpa using e3
                have := of_decide_eq_true e4
                omega
              refine ⟨_, rfl, p, _, rfl, .inr (Evl.ex_t x5 hpa), rfl, _, rfl, ?_⟩
              rw [List.length_map]
              have e4 : decide (V.int (acc.length : Int) = V.int 12) = decide (acc.length = 12) := by
                by_cases h : acc.length = 12
                · rw [h]; rfl
                · rw [decide_eq_false h]
                  exact decide_eq_false fun q => h (by have := V.int.inj q; omega)
              rw [e4]
              refine ifB (fun e5 => ?_) (fun e5 => ?_)
              · exact ⟨_, rfl, Evl.sz_of (by simp), fun p6 hp6 => no (by rw [e5]; simp) p6 H5 x5 hp6⟩
              refine ⟨_, rfl, Evl.sz_of (by simp), fun p7 hp7 => nil_neT (Evl.ex_t (x5.trans (ex_new hp7)) hpa) okA1 upd_same ⟨_, rfl, ?_⟩⟩
              have x7 := x5.trans (ex_new (o := .tup []) hp7)
              refine ifB (fun e6 => ?_) (fun e6 => ?_)
              · cases acc with
                | nil => cases e6
                | cons b0 br =>
                  have el : rowLong wd (b0 :: br) = !decide (V.int (wd.length : Int) = V.int (b0.length : Int)) := by
                    rw [rowLong_cons h1 h2, len_tl, len_tl]
                    by_cases h : (tl wd).length = (tl b0).length
                    · rw [h]
                      simp
                    · rw [decide_eq_true h]
                      have : ¬ V.int ((tl wd).length : Int) = V.int ((tl b0).length : Int) := fun q => h (by have := V.int.inj q; omega)
                      rw [decide_eq_false this]
                      rfl
                  refine ⟨_, rfl, wd, rfl, lwd, _, rfl, p, _, 0, .str b0, rfl, rfl, Evl.ex_t x7 hpa, atI_nat (j := 0) rfl, b0, rfl, lenA rfl, rfl, _, rfl, ?_⟩
                  rw [← el]
                  refine ifB (fun e7 => ?_) (fun e7 => ?_)
                  · exact ⟨_, rfl, Evl.sz_of (by simp), fun p6 hp6 => nokL e7 p6 _ x7 hp6⟩
                  · exact yes (by rw [e1, e5, e7]; rfl) _ x7
              · have en : acc = [] := by cases acc with | nil => rfl | cons a s => cases e6
                exact yes (by rw [e1, e5, en, rowLong_nil h1 h2]; rfl) _ x7
          · have h1 : ¬ 1 ≤ (tl wd).length := by
              have := of_decide_eq_false e2
              omega
            exact ⟨_, rfl, iteT ⟨_, rfl, Evl.sz_of (by simp), fun p6 hp6 => nokL (rowLong_out1 h1) p6 H5 x5 hp6⟩⟩
        rintro σ' H6 ⟨hnb, rfl, x6⟩
        rw [if_neg (by rw [hnb]; exact Bool.false_ne_true)] at hisl
        have x26 := x2.trans x6
        obtain ⟨las4, la4, m1, m2, m3, m4⟩ := row x26 hws
        refine ⟨_, rfl, _, rfl, ra, _, _, _, rfl, rfl, .of m1, m3, la4, _, rfl, .inl (.of m4), ?_⟩
        refine ⟨_, _, rfl, rfl, _, rfl, ?_⟩
        rw [List.length_map]
        refine ifB (fun e => ?_) (fun e => ?_)
        · have e8 : 1 < (wd :: wr).length := by
            have := of_decide_eq_true e
            omega
          rw [if_pos e8] at hisl
          exact ⟨_, rfl, Evl.sz_of (by simp), fun p8 hp8 => fail (k := 1) x26 hp8 hisl.symm⟩
        · have e8 : ¬ 1 < (wd :: wr).length := by
            have := of_decide_eq_false e
            omega
          rw [if_neg e8] at hisl
          refine ⟨_, rfl, _, rfl, Evl.sz_of (by simp), fun p8 hp8 => catA (ys := [.str wd]) (Evl.ex_t (x6.trans (ex_new hp8)) hpa) (.of upd_same) (by rw [List.length_map, hacc]; show i + 1 ≤ 100000; omega) fun p9 H9 x9 hs9 => ?_⟩
          exact ⟨acc ++ [wd], p9, _, _, _, _, rfl, by rw [List.length_append, hacc]; rfl, by rw [List.map_append]; exact hs9, hisl, fun z hz => by
            rcases List.mem_append.mp hz with hz | hz
            · exact okA z hz
            · rw [List.mem_singleton.mp hz]
              exact wok wd (.head _), (x26.trans (ex_new hp8)).trans x9⟩
      · rintro σ H' ⟨acc, p, o2, o3, o4, o5, rfl, hacc, hpa, hisl, okA, x2⟩
        have hlen : rws.length - 1 + 1 = rws.length := by rw [hrr]; rfl
        rw [hlen, List.drop_of_length_le (Nat.le_refl _), islL_nil] at hisl
        obtain ⟨las3, n1, n2, _⟩ := hr0.ex x2
        refine ⟨_, rfl, ra, _, rfl, .inl (.of n1), Evl.sz_of (by simp), ?_⟩
        rw [List.length_map, n2]
        exact fun p8 hp8 => fail (k := 0) x2 hp8 hisl.symm
end
end Om
end PartB5
section PartPL6
set_option Elab.async false
set_option linter.all false
/-! Plain lemmas on the whole text. -/
namespace Om
open PySem L2 TL
theorem insL_cons (ws : List Str) (r : List (List Str)) (k : Nat) : insL (ws :: r) k = match rowAt ws with | .error e => .error (k, e) | .ok d => match insL r (k + 1) with | .ok l => .ok (d :: l) | .error e => .error e := rfl
theorem insL_app : ∀ (a b : List (List Str)) (k : Nat) (l : List (List PyData)), insL a k = .ok l → insL (a ++ b) k = match insL b (k + a.length) with | .ok m => .ok (l ++ m) | .error e => .error e
  | [], b, k, l, h => by
    cases h
    show insL b k = match insL b k with | .ok m => .ok ([] ++ m) | .error e => .error e
    cases insL b k <;> rfl
  | ws :: r, b, k, l, h => by
    rw [insL_cons] at h
    rw [List.cons_append, insL_cons]
    cases q : rowAt ws with
    | error e => rw [q] at h; cases h
    | ok d =>
      rw [q] at h
      simp only at h ⊢
      cases q2 : insL r (k + 1) with
      | error e => rw [q2] at h; cases h
      | ok l2 =>
        rw [q2] at h
        cases h
        rw [insL_app r b (k + 1) l2 q2, List.length_cons, Nat.add_assoc, Nat.add_comm 1]
        cases insL b (k + (r.length + 1)) <;> rfl
theorem ins_step {L : List (List Str)} {k i : Nat} {l : List (List PyData)} {ws : List Str} {d : List PyData} (h : insL (L.take i) k = .ok l) (hw : L[i]? = some ws) (hd : rowAt ws = .ok d) : insL (L.take (i + 1)) k = .ok (l ++ [d]) := by
  rw [List.take_add_one, hw]
  show insL (L.take i ++ [ws]) k = _
  rw [insL_app _ _ _ _ h, insL_cons, hd]
  rfl
theorem ins_bad {L : List (List Str)} {k i e : Nat} {l : List (List PyData)} {ws : List Str} (h : insL (L.take i) k = .ok l) (hw : L[i]? = some ws) (hd : rowAt ws = .error e) : insL L k = .error (k + i, e) := by
  have hlt := (List.getElem?_eq_some_iff.mp hw).1
  have e1 : L = L.take i ++ ws :: L.drop (i + 1) := by
    conv => lhs; rw [← List.take_append_drop i L]
    rw [List.drop_eq_getElem_cons hlt, Option.some.inj ((List.getElem?_eq_getElem hlt).symm.trans hw)]
  rw [e1, insL_app _ _ _ _ h, insL_cons, hd, List.length_take, Nat.min_eq_left (Nat.le_of_lt hlt)]
/-- rows that are read as an island -/
theorem islL_ok : ∀ (r : List (List Str)) (k : Nat) (acc rows : List Str), (∀ ws ∈ r, ws ≠ []) → islL r k acc = .ok rows → ∃ (n : Nat) (wr : List Str), rows.length = acc.length + n ∧ r[n]? = some (("from" : Str) :: wr) ∧ rows ≠ [] ∧ rows.take acc.length = acc ∧
    (∀ j, acc.length ≤ j → ∀ w, rows[j]? = some w → badRow w (rows.take j) = false)
  | [], k, acc, rows, _, h => by rw [islL_nil] at h; cases h
  | [] :: r, k, acc, rows, hn, h => absurd rfl (hn [] (.head _))
  | (w :: wr) :: r, k, acc, rows, hn, h => by
    rw [islL_cons] at h
    split at h
    · rename_i q
      cases h
      refine ⟨0, wr, rfl, by rw [q.1]; rfl, q.2, List.take_length, fun j hj x hx => ?_⟩
      rw [List.getElem?_eq_none hj] at hx
      cases hx
    · split at h
      · cases h
      · rename_i hb
        split at h
        · cases h
        · obtain ⟨n, wr2, h1, h2, h3, h4, h5⟩ := islL_ok r (k + 1) (acc ++ [w]) rows (fun ws hws => hn ws (.tail _ hws)) h
          have hl : (acc ++ [w]).length = acc.length + 1 := by rw [List.length_append]; rfl
          have h6 : rows.take acc.length = acc := by
            have := congrArg (List.take acc.length) h4
            rw [hl, List.take_take, Nat.min_eq_left (Nat.le_succ _), List.take_append_of_le_length (Nat.le_refl _), List.take_length] at this
            exact this
          refine ⟨n + 1, wr2, by rw [h1, hl]; omega, h2, h3, h6, fun j hj x hx => ?_⟩
          by_cases hj2 : acc.length + 1 ≤ j
          · exact h5 j (by rw [hl]; exact hj2) x hx
          · have ej : j = acc.length := by omega
            subst ej
            rw [h6]
            have e7 : rows[acc.length]? = some w := by
              have h7 : (rows.take (acc ++ [w]).length)[acc.length]? = (acc ++ [w])[acc.length]? := by rw [h4]
              rw [List.getElem?_take, if_pos (by omega), List.getElem?_append_right (Nat.le_refl _), Nat.sub_self] at h7
              exact h7
            rw [e7] at hx
            cases hx
            cases q : badRow w acc with
            | false => rfl
            | true => exact absurd q hb
end Om
end PartPL6
section PartA11
set_option Elab.async false
set_option linter.all false
set_option maxRecDepth 100000
set_option maxHeartbeats 400000
namespace Om
open PySem PySem.Spec PyProof.Rows L2 He TL
/-- rows of an island -/
def IslOk (rows : List Str) : Prop := rows.length ≤ 12 ∧ ∃ w0 r, rows = w0 :: r ∧ 1 ≤ (tl w0).length ∧ (tl w0).length ≤ 12 ∧ ∀ w ∈ rows, rowKnown w = true ∧ (tl w).length = (tl w0).length
section
variable {w : World} {K : Frg} {mg : Str → Option Value} {base : Heap}
/-- Island.__init__ -/
def sp_Island_init (K : Frg) : Sp := fun vs H Q _ => ∃ (a dx b : Addr) (rows : List Str), vs = [.ref a, .ref b] ∧ H a = some (.ins (ga K "Island") dx []) ∧ SqT K H b (rows.map V.str) ∧ IslOk rows ∧
  ∀ H', Ex (upd H a (.ins (ga K "Island") dx [("own_rows", .ref b)])) H' → Q .non H'
theorem sc_Island_init : FnScope ["self", "rows", "row", "text", "column", "sign"] ["self", "rows"] (defScope s_Island_init) := ⟨rfl, rfl, rfl, by decide +kernel, rfl, by decide +kernel, by decide +kernel⟩
theorem ok_Island_init (T : Tx w K mg) : FnOk prg w K mg base CX0 1 (ma K (ga K "Island") "__init__") (fdOf K (ma K (ga K "Island") "__init__")) ["self", "rows"] (sp_Island_init K) := by
  refine T.f_Island_init.ok sc_Island_init (fun vs H Q E h => ?_) (fun cdv A outer s H vs Q E hr h => ?_)
  · obtain ⟨a, dx, b, rows, rfl, _⟩ := h
    rfl
  · obtain ⟨a, dx, b, rows, rfl, hi, hb, ok, q⟩ := h
    refine ⟨_, PSs.nox (pss_cons (ps_if (PW.pt (pw_or (pt_cmpR op_eq (pe_callB call_len_seq (by rfl) T.b_len PySem.boot_len (pa_cons (pv 1) pa_nil)) pe_int (nomark _)) (pw_or1 (pt_cmpR op_eq (pe_ix ix_tup (pv 1) pe_int (fun _ _ => rfl)) pe_str (nomark _))))) (pss_one (ps_never)) pss_nil)
      (pss_cons (ps_for PassesOwn.never rfl (pi_enumT (by rfl) T.b_enumerate (pa_cons (pv 1) pa_nil)) (pg_tup rfl (pgs_cons (pg_name (i := 2) sc_Island_init.nd rfl (Or.inl rfl)) (pgs_cons (pg_name (i := 3) sc_Island_init.nd rfl (Or.inl rfl)) pgs_nil))) (pss_cons (ps_if (pt_cmpR op_eq (pv 2) (pe_glob (v := .int _) (by rfl) T.c_MAX_SIZE.choose_spec ⟨_, rfl⟩) (nomark _)) (pss_one (ps_never)) pss_nil)
      (pss_cons (ps_for PassesOwn.never rfl (pi_enumS (by rfl) T.b_enumerate (pa_cons (pv 3) pa_nil)) (pg_tup rfl (pgs_cons (pg_name (i := 4) sc_Island_init.nd rfl (Or.inl rfl)) (pgs_cons (pg_name (i := 5) sc_Island_init.nd rfl (Or.inl rfl)) pgs_nil))) (pss_one (ps_if (PW.pt (pw_or (pt_cmpR op_eq (pv 4) (pe_callB (call_min2 rfl) (by rfl) T.b_min (by decide +kernel) (pa_cons (pe_glob (v := .int _) (by rfl) T.c_MAX_SIZE.choose_spec ⟨_, rfl⟩) (pa_cons (pe_callB call_len_str (by rfl) T.b_len PySem.boot_len (pa_cons (pe_ix ix_tup (pv 1) pe_int (fun _ _ => rfl)) pa_nil)) pa_nil))) (nomark _)) (pw_or1 (pt_cmpR op_notIn_sign (pv 5) (pe_op op_add_str (pe_op op_add_str (pe_glob (v := .str _) (by rfl) T.c_LAND.choose_spec ⟨_, rfl⟩) (pe_glob (v := .str _) (by rfl) T.c_WATER.choose_spec ⟨_, rfl⟩)) (pe_glob (v := .str _) (by rfl) T.c_LETTERS.choose_spec ⟨_, rfl⟩)) (by rfl))))) (pss_one (ps_never)) pss_nil)))
      (pss_one (ps_if (pt_cmpR op_lt (pe_callB call_len_str (by rfl) T.b_len PySem.boot_len (pa_cons (pv 3) pa_nil)) (pe_callB call_len_str (by rfl) T.b_len PySem.boot_len (pa_cons (pe_ix ix_tup (pv 1) pe_int (fun _ _ => rfl)) pa_nil)) (nomark _)) (pss_one (ps_never)) pss_nil)))))
      (pss_one (ps_fld (pv 0) (pv 1) (by rfl))))), ?_⟩
    obtain ⟨hrl, w0, rr, rfl, h1, h2, hall⟩ := ok
    have sz0 : ∀ z : Str, (tl z).length = (tl w0).length → z.length ≤ sizeLine := fun z e => Evl.sz_of (by rw [len_tl]; omega)
    have at0 : atI ((w0 :: rr).map V.str) 0 = some (.str w0) := atI_nat (j := 0) rfl
    have never : ∀ {A B : Prop}, B → if false = true then A else B := fun h => iteF h
    refine ⟨_, rfl, b, _, rfl, .inr hb, rfl, _, rfl, ?_⟩
    rw [List.length_map]
    refine ifB (fun e => absurd e (by simp; omega)) (fun _ => ⟨_, rfl, b, _, 0, .str w0, rfl, rfl, hb, at0, rfl, _, rfl, ?_⟩)
    refine ifB (fun e => ?_) (fun _ => ?_)
    · rw [vstr_eq, show tl (Str.ofString "") = [] by decide +kernel] at e
      rw [of_decide_eq_true e] at h1
      exact absurd h1 (by decide)
    refine ⟨_, rfl, b, _, rfl, hb, for_it walk_pairs (fun i σ H' => Ex H H' ∧ ∃ o2 o3 o4 o5, σ = [some (.ref a), some (.ref b), o2, o3, o4, o5]) ⟨Evl.Ex.refl H, _, _, _, _, rfl⟩ (fun i σ H' _ h => Evl.ex_t h.1 hb) ?_ ?_⟩
    · rintro i x σ H1 H2 hi ⟨x1, o2, o3, o4, o5, rfl⟩ ⟨T0, y1, y2, rfl, hT, rfl, hy1, hy2⟩
      have hy2 : ((w0 :: rr).map V.str)[i]? = some y2 := hy2
      cases hy1
      rw [List.getElem?_map, Option.map_eq_some_iff] at hy2
      obtain ⟨wd, hwd, rfl⟩ := hy2
      obtain ⟨wk, wl⟩ := hall wd (List.mem_of_getElem? hwd)
      have hi12 : i < 12 := by have := (List.getElem?_eq_some_iff.mp hwd).1; omega
      have x2 := x1.trans (ex_new (o := .tup [V.int i, V.str wd]) hT)
      refine ⟨T0, _, rfl, .of upd_same, rfl, _, _, rfl, _, _, rfl, rfl, ?_⟩
      generalize upd H1 T0 (.tup [V.int i, V.str wd]) = H2 at x2 ⊢
      refine ⟨_, rfl, rfl, _, rfl, ?_⟩
      refine ifB (fun e => absurd (V.int.inj (of_decide_eq_true e)) (by omega)) (fun _ => ?_)
      refine ⟨_, rfl, wd, rfl, for_it walk_pairs (fun j σ H' => Ex H H' ∧ ∃ o4 o5, σ = [some (.ref a), some (.ref b), some (.int i), some (.str wd), o4, o5]) ⟨x2, _, _, rfl⟩ (fun _ _ _ _ _ => trivial) ?_ ?_⟩
      · rintro j x σ H3 H4 hj ⟨x3, o4, o5, rfl⟩ ⟨T1, z1, z2, rfl, hT1, rfl, hz1, ⟨c, hc, rfl⟩⟩
        cases hz1
        have hc' : (tl wd)[j]? = some c := by rw [← hc]; exact Array.getElem?_toList
        have hjl : j < (tl wd).length := (List.getElem?_eq_some_iff.mp hc').1
        have x4 := x3.trans (ex_new (o := .tup [V.int j, V.str (s1 c)]) hT1)
        refine ⟨T1, _, rfl, .of upd_same, rfl, _, _, rfl, _, _, rfl, rfl, ?_⟩
        generalize upd H3 T1 (.tup [V.int j, V.str ⟨#[c]⟩]) = H4 at x4 ⊢
        refine ⟨_, rfl, _, rfl, b, _, 0, .str w0, rfl, rfl, Evl.ex_t x4 hb, at0, w0, rfl, sz0 w0 rfl, _, _, rfl, rfl, _, rfl, ?_⟩
        have em : (if ((w0.length : Nat) : Int) < 12 then ((w0.length : Nat) : Int) else 12) = ((tl w0).length : Int) := by
          rw [len_tl]
          split <;> omega
        rw [em]
        refine ifB (fun e => absurd (V.int.inj (of_decide_eq_true e)) (by omega)) (fun _ => ?_)
        refine ⟨_, rfl, _, _, rfl, rfl, by decide +kernel, _, _, rfl, rfl, by decide +kernel, c, _, rfl, rfl, _, rfl, ?_⟩
        have hk : c ∈ knI := by
          have := List.all_eq_true.mp wk c (List.mem_of_getElem? hc')
          simpa using this
        refine ifB (fun e => ?_) (fun _ => ⟨x4, _, _, rfl⟩)
        have e' : (!decide (c ∈ tl ((("." : Str) ++ ("~" : Str)) ++ ("ABCDEFGHIJKLMNOPQRSTUVWXYZ" : Str)))) = true := e
        rw [e_knI, decide_eq_true hk] at e'
        cases e'
      · rintro σ H3 ⟨x3, o4, o5, rfl⟩
        refine ⟨_, rfl, wd, rfl, sz0 wd wl, _, rfl, b, _, 0, .str w0, rfl, rfl, Evl.ex_t x3 hb, at0, w0, rfl, sz0 w0 rfl, _, _, rfl, rfl, _, rfl, ?_⟩
        refine ifB (fun e => ?_) (fun _ => ⟨x3, _, _, _, _, rfl⟩)
        have := of_decide_eq_true e
        rw [len_tl, len_tl] at this
        omega
    · rintro σ H1 ⟨x1, o2, o3, o4, o5, rfl⟩
      refine ⟨_, rfl, _, rfl, a, _, dx, [], rfl, x1 _ _ hi, T.cl_Island, T.na_Island_own_rows, by decide, q _ fun c o h => ?_⟩
      by_cases hca : c = a
      · rw [hca, upd_same] at h ⊢
        exact h
      · rw [upd_ne hca] at h ⊢
        exact x1 _ _ h
end
end Om
end PartA11
section PartPL7
set_option Elab.async false
set_option linter.all false
/-! Plain lemmas: what is read is well formed. -/
namespace Om
open PySem L2 TL
theorem island_ok {rws : List (List Str)} {rows : List Str} (hn : ∀ ws ∈ rws, ws ≠ []) (h : islandAt rws = .ok rows) : IslOk rows ∧ ∃ wr, rws[rows.length + 1]? = some (("from" : Str) :: wr) := by
  cases rws with
  | nil => cases h
  | cons r0 rr =>
    rw [islandAt_cons] at h
    split at h
    · obtain ⟨n, wr, h1, h2, h3, _, h5⟩ := islL_ok rr 1 [] rows (fun ws hws => hn ws (.tail _ hws)) h
      have h1 : rows.length = n := by rw [h1]; simp
      have bad : ∀ j w, rows[j]? = some w → rowKnown w = true ∧ rowLong w (rows.take j) = false ∧ j ≠ 12 := fun j w hw => by
        have q := h5 j (Nat.zero_le _) w hw
        rw [badRow_eq] at q
        simp only [Bool.or_eq_false_iff, Bool.not_eq_false'] at q
        refine ⟨q.1, q.2.1, fun e => ?_⟩
        have hl := (List.getElem?_eq_some_iff.mp hw).1
        have := of_decide_eq_false q.2.2
        rw [List.length_take, e] at this
        omega
      have rng : ∀ {w : Str} {acc : List Str}, rowLong w acc = false → 1 ≤ (tl w).length ∧ (tl w).length ≤ 12 := fun {w acc} q => by
        constructor
        · by_cases c : 1 ≤ (tl w).length
          · exact c
          · rw [rowLong_out1 c] at q; cases q
        · by_cases c : (tl w).length ≤ 12
          · exact c
          · rw [rowLong_out2 c] at q; cases q
      obtain ⟨w0, r, e0⟩ : ∃ w0 r, rows = w0 :: r := by
        cases rows with
        | nil => exact absurd rfl h3
        | cons a b => exact ⟨a, b, rfl⟩
      have b0 := bad 0 w0 (by rw [e0]; rfl)
      refine ⟨⟨?_, w0, r, e0, (rng b0.2.1).1, (rng b0.2.1).2, fun w hw => ?_⟩, wr, by rw [h1]; exact h2⟩
      · by_cases c : rows.length ≤ 12
        · exact c
        · have hl : 12 < rows.length := by omega
          exact absurd rfl (bad 12 _ (List.getElem?_eq_getElem hl)).2.2
      · obtain ⟨j, hj, ej⟩ := List.getElem_of_mem hw
        have bj := bad j w (by rw [List.getElem?_eq_getElem hj, ej])
        refine ⟨bj.1, ?_⟩
        cases j with
        | zero =>
          rw [List.getElem_zero] at ej
          have : w = w0 := by rw [← ej]; simp [e0]
          rw [this]
        | succ j =>
          have et : rows.take (j + 1) = w0 :: r.take j := by rw [e0]; rfl
          have q := bj.2.1
          have g := rng q
          rw [et, rowLong_cons g.1 g.2] at q
          simpa using q
    · cases h
theorem sidesL_ok : ∀ (ws : List Str) (k : Nat) (l : List Int), sidesL ws k = .ok l → l.length = ws.length ∧ ∀ t ∈ l, 0 ≤ t ∧ t ≤ 3
  | [], _, l, h => by cases h; exact ⟨rfl, fun t ht => by cases ht⟩
  | w :: r, k, l, h => by
    unfold sidesL at h
    cases q : sideIx w with
    | none => rw [q] at h; cases h
    | some i =>
      rw [q] at h
      simp only at h
      cases q2 : sidesL r (k + 1) with
      | error e => rw [q2] at h; cases h
      | ok l2 =>
        rw [q2] at h
        cases h
        obtain ⟨h1, h2⟩ := sidesL_ok r (k + 1) l2 q2
        refine ⟨by rw [List.length_cons, h1]; rfl, fun t ht => ?_⟩
        rcases List.mem_cons.mp ht with rfl | ht
        · have : i ≤ 3 := by
            unfold sideIx at q
            repeat (split at q; · cases q; decide)
            cases q
          exact ⟨Int.natCast_nonneg _, by omega⟩
        · exact h2 t ht
theorem begin_ok {ws : List Str} {z : Str} {l : List Int} (h : beginAt ws = .ok (z, l)) : ws[1]? = some z ∧ isSig knS z = true ∧ l ≠ [] ∧ (∀ t ∈ l, 0 ≤ t ∧ t ≤ 3) ∧ l.length ≤ ws.length := by
  cases q : ws[1]? with
  | none => rw [begin_short q] at h; cases h
  | some w =>
    rw [begin_eq ws w q] at h
    split at h
    · rename_i hs
      cases q2 : ws.drop 2 with
      | nil => rw [q2] at h; cases h
      | cons a b =>
        rw [q2] at h
        simp only at h
        cases q3 : sidesL (a :: b) 2 with
        | error e => rw [q3] at h; cases h
        | ok l2 =>
          rw [q3] at h
          cases h
          obtain ⟨h1, h2⟩ := sidesL_ok _ _ _ q3
          refine ⟨rfl, hs, (fun e => by rw [e] at h1; cases h1), h2, ?_⟩
          rw [h1, ← q2, List.length_drop]
          omega
    · cases h
theorem numsL_ok : ∀ (ws : List Str) (k : Nat) (l : List Int), numsL ws k = .ok l → l.length = ws.length ∧ ∀ t ∈ l, 0 ≤ t
  | [], _, l, h => by cases h; exact ⟨rfl, fun t ht => by cases ht⟩
  | w :: r, k, l, h => by
    unfold numsL at h
    split at h
    · rename_i hw
      cases q2 : numsL r (k + 1) with
      | error e => rw [q2] at h; cases h
      | ok l2 =>
        rw [q2] at h
        cases h
        obtain ⟨h1, h2⟩ := numsL_ok r (k + 1) l2 q2
        refine ⟨by rw [List.length_cons, h1]; rfl, fun t ht => ?_⟩
        rcases List.mem_cons.mp ht with rfl | ht
        · exact (int_word hw).2.2.1
        · exact h2 t ht
    · cases h
theorem p_num {ws : List Str} {k k' : Nat} {d : PyData} (h : partAt .num ws k = .ok (k', d)) : ∃ v : Int, d = .int v ∧ 0 ≤ v := by
  unfold partAt at h
  cases e : ws[k]? with
  | none => simp only [e] at h; cases h
  | some z =>
    simp only [e] at h
    split at h
    · rename_i hz
      cases h
      exact ⟨_, rfl, (int_word hz).2.2.1⟩
    · cases h
theorem p_sig {ws : List Str} {k k' : Nat} {d : PyData} (h : partAt .sig ws k = .ok (k', d)) : ∃ z : Str, d = .str z ∧ isSig knS z = true ∧ z ∈ ws := by
  unfold partAt at h
  cases e : ws[k]? with
  | none => simp only [e] at h; cases h
  | some z =>
    simp only [e] at h
    split at h
    · rename_i hz
      cases h
      exact ⟨_, rfl, hz, List.mem_of_getElem? e⟩
    · cases h
theorem p_all {ws : List Str} {k k' : Nat} {d : PyData} (h : partAt .all ws k = .ok (k', d)) : ∃ z : Str, d = .str z ∧ isSig knA z = true ∧ z ∈ ws := by
  unfold partAt at h
  cases e : ws[k]? with
  | none => simp only [e] at h; cases h
  | some z =>
    simp only [e] at h
    split at h
    · rename_i hz
      cases h
      exact ⟨_, rfl, hz, List.mem_of_getElem? e⟩
    · cases h
theorem p_nums {ws : List Str} {k k' : Nat} {d : PyData} (h : partAt .nums ws k = .ok (k', d)) : ∃ l : List Int, d = .tuple (l.map PyData.int) ∧ l ≠ [] ∧ (∀ t ∈ l, 0 ≤ t) ∧ l.length ≤ ws.length := by
  unfold partAt at h
  simp only at h
  split at h
  · rename_i hk
    cases q : numsL (ws.drop k) k with
    | error e => rw [q] at h; cases h
    | ok l =>
      rw [q] at h
      cases h
      obtain ⟨h1, h2⟩ := numsL_ok _ _ _ q
      rw [List.length_drop] at h1
      exact ⟨l, rfl, (fun e => by rw [e] at h1; simp at h1; omega), h2, by omega⟩
  · cases h
theorem one_part {f : Fm} {r : List Fm} {ws : List Str} {k e : Nat} {acc ds : List PyData} (h : partsAt (f :: r) ws k acc = .ok (e, ds)) : ∃ k' d, partAt f ws k = .ok (k', d) ∧ partsAt r ws k' (acc ++ [d]) = .ok (e, ds) := by
  rw [partsAt_cons] at h
  cases q : partAt f ws k with
  | error e => rw [q] at h; cases h
  | ok p => rw [q] at h; exact ⟨p.1, p.2, rfl, h⟩
theorem row_wf {ws : List Str} {ds : List PyData} (ok : OkW ws) (hl : ws.length ≤ 1000) (h : rowAt ws = .ok ds) : Wf ds := by
  cases ws with
  | nil => cases h
  | cons w r =>
    unfold rowAt at h
    simp only at h
    cases q : formsOf w with
    | none => rw [q] at h; cases h
    | some fs =>
      rw [q] at h
      simp only at h
      cases q2 : partsAt fs (w :: r) 1 [.str w] with
      | error e => rw [q2] at h; cases h
      | ok p =>
        obtain ⟨e, ds2⟩ := p
        rw [q2] at h
        simp only at h
        split at h
        · cases h
          unfold formsOf at q
          split at q
          · rename_i hw
            cases q
            obtain ⟨k1, d1, g1, g⟩ := one_part q2
            cases g
            obtain ⟨l, rfl, a1, a2, a3⟩ := p_nums g1
            rw [hw]
            exact .turn l a1 a2 (by omega)
          split at q
          · rename_i _ hw
            cases q
            obtain ⟨k1, d1, g1, g⟩ := one_part q2
            obtain ⟨k2, d2, g2, g⟩ := one_part g
            cases g
            obtain ⟨u, rfl, a1⟩ := p_num g1
            obtain ⟨v, rfl, a2⟩ := p_num g2
            rw [hw]
            exact .walk u v a1 a2
          split at q
          · rename_i _ _ hw
            cases q
            obtain ⟨k1, d1, g1, g⟩ := one_part q2
            cases g
            obtain ⟨z, rfl, a1, a2⟩ := p_sig g1
            rw [hw]
            exact .untl z a1 (ok z a2).2 (ok z a2).1
          split at q
          · rename_i _ _ _ hw
            cases q
            obtain ⟨k1, d1, g1, g⟩ := one_part q2
            cases g
            obtain ⟨z, rfl, a1, a2⟩ := p_sig g1
            rw [hw]
            exact .towd z a1 (ok z a2).2 (ok z a2).1
          split at q
          · rename_i _ _ _ _ hw
            cases q
            obtain ⟨k1, d1, g1, g⟩ := one_part q2
            obtain ⟨k2, d2, g2, g⟩ := one_part g
            cases g
            obtain ⟨u, rfl, b1⟩ := p_num g1
            obtain ⟨z, rfl, a1, a2⟩ := p_all g2
            rw [hw]
            exact .besd u z b1 a1 (ok z a2).2 (ok z a2).1
          split at q
          · rename_i _ _ _ _ _ hw
            cases q
            obtain ⟨k1, d1, g1, g⟩ := one_part q2
            obtain ⟨k2, d2, g2, g⟩ := one_part g
            cases g
            obtain ⟨z, rfl, a1, a2⟩ := p_all g1
            obtain ⟨u, rfl, b1⟩ := p_num g2
            rw [hw]
            exact .near z u b1 a1 (ok z a2).2 (ok z a2).1
          split at q
          · rename_i _ _ _ _ _ _ hw
            cases q
            obtain ⟨k1, d1, g1, g⟩ := one_part q2
            obtain ⟨k2, d2, g2, g⟩ := one_part g
            obtain ⟨k3, d3, g3, g⟩ := one_part g
            cases g
            obtain ⟨u, rfl, b1⟩ := p_num g1
            obtain ⟨v, rfl, b2⟩ := p_num g2
            obtain ⟨x, rfl, b3⟩ := p_num g3
            rw [hw]
            exact .shor u v x b1 b2 b3
          · cases q
        · cases h
end Om
end PartPL7
section PartPL8
set_option Elab.async false
set_option linter.all false
/-! The law's own reading: it stops at a row that begins with "search". -/
namespace Om
open PySem L2 TL
def insS : List (List Str) → Nat → Except (Nat × Nat) (List (List PyData) × Nat)
  | [], k => .ok ([], k)
  | ws :: r, k => if ws.headD Str.empty = "search" then .ok ([], k) else match rowAt ws with
    | .error e => .error (k, e)
    | .ok d => match insS r (k + 1) with | .ok (l, j) => .ok (d :: l, j) | .error e => .error e
def readS (lines : List (List Str)) : Except (Nat × Nat) (Chart × Nat) :=
  match islandAt lines with
  | .error e => .error e
  | .ok rows => match beginAt (lines.getD (rows.length + 1) []) with
    | .error e => .error (rows.length + 1, e)
    | .ok (s, f) => match insS (lines.drop (rows.length + 2)) (rows.length + 2) with
      | .error e => .error e
      | .ok (l, k) => .ok (⟨rows, s, f, l⟩, k)
theorem rowAt_search (ws : List Str) (h : ws.headD Str.empty = "search") : rowAt ws = .error 0 := by
  cases ws with
  | nil => rfl
  | cons a r =>
    have e : a = "search" := h
    subst e
    have : formsOf ("search" : Str) = none := by decide +kernel
    unfold rowAt
    simp only [this]
theorem insS_rel : ∀ (r : List (List Str)) (k : Nat), match insS r k with
    | .error e => insL r k = .error e
    | .ok (l, j) => (j = k + r.length ∧ insL r k = .ok l) ∨ (j < k + r.length ∧ insL r k = .error (j, 0))
  | [], k => .inl ⟨rfl, rfl⟩
  | ws :: r, k => by
    unfold insS
    by_cases hs : ws.headD Str.empty = "search"
    · rw [if_pos hs]
      refine .inr ⟨by simp, ?_⟩
      unfold insL
      rw [rowAt_search ws hs]
    · rw [if_neg hs]
      cases hr : rowAt ws with
      | error e =>
        show insL (ws :: r) k = _
        unfold insL
        rw [hr]
      | ok d =>
        have ih := insS_rel r (k + 1)
        cases hi : insS r (k + 1) with
        | error e =>
          rw [hi] at ih
          show insL (ws :: r) k = _
          unfold insL
          rw [hr]
          show (match insL r (k + 1) with | .ok l => _ | .error e => _) = _
          rw [show insL r (k + 1) = .error e from ih]
        | ok lj =>
          obtain ⟨l, j⟩ := lj
          rw [hi] at ih
          have ih : (j = k + 1 + r.length ∧ insL r (k + 1) = .ok l) ∨ (j < k + 1 + r.length ∧ insL r (k + 1) = .error (j, 0)) := ih
          show (j = k + (r.length + 1) ∧ insL (ws :: r) k = .ok (d :: l)) ∨ (j < k + (r.length + 1) ∧ insL (ws :: r) k = .error (j, 0))
          rcases ih with ⟨h1, h2⟩ | ⟨h1, h2⟩
          · refine .inl ⟨by omega, ?_⟩
            unfold insL
            rw [hr]
            show (match insL r (k + 1) with | .ok l => _ | .error e => _) = _
            rw [h2]
          · refine .inr ⟨by omega, ?_⟩
            unfold insL
            rw [hr]
            show (match insL r (k + 1) with | .ok l => _ | .error e => _) = _
            rw [h2]
end Om
namespace Om
open PySem L2 TL
/-- one turn of the law's walk over the rows -/
def insAcc (acc : List (List PyData)) (r : List (List Str)) (k : Nat) : Except (Nat × Nat) (List (List PyData) × Nat) :=
  match insS r k with | .ok (l, j) => .ok (acc ++ l, j) | .error e => .error e
theorem insAcc_nil (acc : List (List PyData)) (k : Nat) : insAcc acc [] k = .ok (acc, k) := by
  unfold insAcc insS
  simp
theorem insAcc_search (acc : List (List PyData)) {ws : List Str} (r : List (List Str)) (k : Nat) (h : ws.headD Str.empty = "search") : insAcc acc (ws :: r) k = .ok (acc, k) := by
  unfold insAcc insS
  rw [if_pos h]
  simp
theorem insAcc_bad (acc : List (List PyData)) {ws : List Str} (r : List (List Str)) (k : Nat) {e : Nat} (h : ¬ ws.headD Str.empty = "search") (hr : rowAt ws = .error e) : insAcc acc (ws :: r) k = .error (k, e) := by
  unfold insAcc insS
  rw [if_neg h, hr]
theorem insAcc_ok (acc : List (List PyData)) {ws : List Str} (r : List (List Str)) (k : Nat) {d : List PyData} (h : ¬ ws.headD Str.empty = "search") (hr : rowAt ws = .ok d) : insAcc acc (ws :: r) k = insAcc (acc ++ [d]) r (k + 1) := by
  conv => lhs; unfold insAcc insS
  rw [if_neg h, hr]
  unfold insAcc
  cases insS r (k + 1) with
  | error e => rfl
  | ok lj =>
    obtain ⟨l, j⟩ := lj
    simp
/-- what the due answer is, from the law's reading -/
theorem readS_rel (rws : List (List Str)) (hn : ∀ ws ∈ rws, ws ≠ []) : match readS rws with
    | .error e => readM rws = .error e
    | .ok (c, k) => (k < rws.length ∧ readM rws = .error (k, 0)) ∨ (¬ k < rws.length ∧ readM rws = .ok c) := by
  unfold readS readM
  cases hi : islandAt rws with
  | error e => rfl
  | ok rows =>
    simp only []
    cases hb : beginAt (rws.getD (rows.length + 1) []) with
    | error e => rfl
    | ok sf =>
      obtain ⟨s, f⟩ := sf
      simp only []
      have rel := insS_rel (rws.drop (rows.length + 2)) (rows.length + 2)
      cases hs : insS (rws.drop (rows.length + 2)) (rows.length + 2) with
      | error e =>
        rw [hs] at rel
        have rel : insL (rws.drop (rows.length + 2)) (rows.length + 2) = .error e := rel
        simp only [rel]
      | ok lj =>
        obtain ⟨l, j⟩ := lj
        rw [hs] at rel
        have rel : (j = rows.length + 2 + (rws.drop (rows.length + 2)).length ∧ insL (rws.drop (rows.length + 2)) (rows.length + 2) = .ok l) ∨ (j < rows.length + 2 + (rws.drop (rows.length + 2)).length ∧ insL (rws.drop (rows.length + 2)) (rows.length + 2) = .error (j, 0)) := rel
        rw [List.length_drop] at rel
        rcases rel with ⟨h1, h2⟩ | ⟨h1, h2⟩
        · right
          simp only [h2]
          exact ⟨by omega, trivial⟩
        · simp only [h2]
          by_cases q : j < rws.length
          · exact .inl ⟨q, trivial⟩
          · obtain ⟨_, wr, hw⟩ := island_ok hn hi
            have := (List.getElem?_eq_some_iff.mp hw).1
            exact absurd h1 (by omega)
end Om
end PartPL8
section PartA12
set_option Elab.async false
set_option linter.all false
set_option maxRecDepth 100000
set_option maxHeartbeats 400000
namespace Om
open PySem PySem.Spec PyProof.Rows L2 He TL
/-- instructions as rows give them -/
def InsAt (K : Frg) (H : Hp) : List V → List (List PyData) → Prop
  | [], [] => True
  | x :: r, d :: s => Dp K H x (.tuple d) ∧ Wf d ∧ InsAt K H r s
  | _, _ => False
theorem InsAt.len {K : Frg} {H : Hp} : ∀ {xs : List V} {dss : List (List PyData)}, InsAt K H xs dss → xs.length = dss.length
  | [], [], _ => rfl
  | _ :: _, _ :: _, h => congrArg (· + 1) (InsAt.len h.2.2)
  | [], _ :: _, h => h.elim
  | _ :: _, [], h => h.elim
theorem InsAt.get {K : Frg} {H : Hp} : ∀ {xs : List V} {dss : List (List PyData)} {i : Nat} {x : V}, InsAt K H xs dss → xs[i]? = some x → ∃ d, dss[i]? = some d ∧ Dp K H x (.tuple d) ∧ Wf d
  | [], [], _, _, _, e => by simp at e
  | _ :: _, d :: _, 0, _, h, e => by cases e; exact ⟨d, rfl, h.1, h.2.1⟩
  | _ :: r, _ :: s, i + 1, x, h, e => InsAt.get (xs := r) (dss := s) (i := i) (x := x) h.2.2 e
  | [], _ :: _, _, _, h, _ => h.elim
  | _ :: _, [], _, _, h, _ => h.elim
section
variable {w : World} {K : Frg} {mg : Str → Option Value} {base : Heap}
/-- Map.__init__ -/
def sp_Map_init (K : Frg) : Sp := fun vs H Q E => ∃ (a dx ia fb ib : Addr) (z : Str) (l : List Int) (xs : List V) (dss : List (List PyData)), vs = [.ref a, .ref ia, .str z, .ref fb, .ref ib] ∧ H a = some (.ins (ga K "Map") dx []) ∧
  isSig knS z = true ∧ PyData.strOk z = true ∧ z.cps.size ≤ 1000 ∧ SqT K H fb (l.map V.int) ∧ l ≠ [] ∧ l.length ≤ 1000 ∧ (∀ t ∈ l, 0 ≤ t ∧ t ≤ 3) ∧ H ib = some (.lst xs) ∧ InsAt K H xs dss ∧ dss.length ≤ 1000 ∧
  (risingI l = true → wrongL dss 0 = none → ∀ t H', Ex (upd H a (.ins (ga K "Map") dx [("own_island", .ref ia), ("own_signs", .str z), ("own_facings", .ref fb), ("own_instructions", .ref t)])) H' → SqT K H' t xs → Q .non H') ∧
  (∀ i, (if risingI l = false then some (-1 : Int) else (wrongL dss 0).map fun k => (k : Int)) = some i → ∀ d H', Ex H H' → H' d = some (.xd [("index", .int i)]) → E (.ref (ga K "InvalidMap")) (some d) H')
theorem sc_Map_init : FnScope ["self", "island", "signs", "facings", "instructions", "index", "instruction"] ["self", "island", "signs", "facings", "instructions"] (defScope s_Map_init) := ⟨rfl, rfl, rfl, by decide +kernel, rfl, by decide +kernel, by decide +kernel⟩
theorem ok_Map_init (T : Tx w K mg) : FnOk prg w K mg base (L2.CX prg w) 4 (ma K (ga K "Map") "__init__") (fdOf K (ma K (ga K "Map") "__init__")) ["self", "island", "signs", "facings", "instructions"] (sp_Map_init K) := by
  refine T.f_Map_init.ok sc_Map_init (fun vs H Q E h => ?_) (fun cdv A outer s H vs Q E hr h => ?_)
  · obtain ⟨a, dx, ia, fb, ib, z, l, xs, dss, rfl, _⟩ := h
    rfl
  · obtain ⟨a, dx, ia, fb, ib, z, l, xs, dss, rfl, hi, hsg, okz, hz, hf, hl0, hl, hlr, hib, hins, hdn, q, f⟩ := h
    refine ⟨_, (pss_cons (ps_if (PW.pt (pw_or (pt_not (pt_val (pe_call (ok_are_signs T) (hr.mono (by decide)) (by rfl) T.g_are_signs T.f_are_signs.kp T.p_are_signs .nil pass0 (pa_cons (pv 2) (pa_cons (pe_op op_add_str (pe_glob (v := .str _) (by rfl) T.c_LAND.choose_spec ⟨_, rfl⟩) (pe_glob (v := .str _) (by rfl) T.c_LETTERS.choose_spec ⟨_, rfl⟩)) pa_nil))))) (pw_or1 (pt_not (pt_val (pe_call (ok_are_turns T) (hr.mono (by decide)) (by rfl) T.g_are_turns T.f_are_turns.kp T.p_are_turns .nil pass0 (pa_cons (pv 3) pa_nil))))))) (pss_one (ps_raise rfl (takes_of rfl rfl rfl rfl) (pmk_IM (k := 2) rfl T.xIM T.x_InvalidMap_no_index T.x_InvalidMap_ty T.kp_InvalidMap (hr.mono (by decide)) (by rfl) T.g_InvalidMap (pk_cons (pe_un un_neg pe_int) pk_nil)))) pss_nil)
      (pss_cons (ps_for (passes_of rfl) rfl (pi_enum (by rfl) T.b_enumerate (pa_cons (pv 4) pa_nil)) (pg_tup rfl (pgs_cons (pg_name (i := 5) sc_Map_init.nd rfl (Or.inl rfl)) (pgs_cons (pg_name (i := 6) sc_Map_init.nd rfl (Or.inl rfl)) pgs_nil))) (pss_one (ps_if (PW.pt (pw_or (pt_cmpR op_eq (pv 5) (pe_glob (v := .int _) (by rfl) T.c_MAX_INSTRUCTIONS.choose_spec ⟨_, rfl⟩) (nomark _)) (pw_or1 (pt_not (pt_val (pe_call (ok_is_instruction T) (hr.mono (by decide)) (by rfl) T.g_is_instruction T.f_is_instruction.kp T.p_is_instruction .nil pass0 (pa_cons (pv 6) pa_nil))))))) (pss_one (ps_raise rfl (takes_of rfl rfl rfl rfl) (pmk_IM (k := 2) rfl T.xIM T.x_InvalidMap_no_index T.x_InvalidMap_ty T.kp_InvalidMap (hr.mono (by decide)) (by rfl) T.g_InvalidMap (pk_cons (pv 5) pk_nil)))) pss_nil)))
      (pss_cons (ps_fld (pv 0) (pv 1) (by rfl))
      (pss_cons (ps_fld (pv 0) (pv 2) (by rfl))
      (pss_cons (ps_fld (pv 0) (pv 3) (by rfl))
      (pss_one (ps_fld (pv 0) (pe_callTy call_tuple_of (by rfl) T.b_tuple boot_tuple (pa_cons (pv 4) pa_nil)) (by rfl)))))))), ?_⟩
    have hT : (!l.isEmpty && (l.all fun t => decide (0 ≤ t) && decide (t ≤ 3)) && risingI l) = risingI l := by
      have e1 : l.isEmpty = false := by cases l with | nil => exact absurd rfl hl0 | cons _ _ => rfl
      have e2 : (l.all fun t => decide (0 ≤ t) && decide (t ≤ 3)) = true := List.all_eq_true.mpr fun t ht => by rw [decide_eq_true (hlr t ht).1, decide_eq_true (hlr t ht).2]; rfl
      rw [e1, e2]
      rfl
    refine ⟨_, rfl, _, _, rfl, rfl, by decide +kernel, z, _, rfl, okz, hz, fun b1 H1 e1 x1 => ⟨_, rfl, ?_⟩⟩
    rw [e_knS, hsg] at e1
    rw [e1]
    refine iteF ?_
    refine ⟨_, rfl, fb, l, rfl, Evl.ex_t x1 hf, hl, fun b2 H2 e2 x2 => ⟨_, rfl, ?_⟩⟩
    rw [hT] at e2
    rw [e2]
    have x12 := x1.trans x2
    refine ifB (fun er => ?_) (fun er => ?_)
    · have er' : risingI l = false := by simpa using er
      refine ⟨1, rfl, rfl, fun d hd => f (-1) (by rw [if_pos er']) d _ (x12.trans (ex_new hd)) upd_same⟩
    have er' : risingI l = true := by simpa using er
    simp only [er', Bool.true_eq_false, if_false] at f
    have q := q er'
    refine ⟨_, rfl, ib, xs, rfl, .of (x12 _ _ hib), for_it (walk_enum (K := K) (a := ib) (xs := xs)) (fun i σ H' => Ex H H' ∧ wrongL (dss.drop i) i = wrongL dss 0 ∧ ∃ o5 o6, σ = [some (.ref a), some (.ref ia), some (.str z), some (.ref fb), some (.ref ib), o5, o6]) ⟨x12, rfl, _, _, rfl⟩ (fun i σ H' _ h => .of (h.1 _ _ hib)) ?_ ?_⟩
    · rintro i x σ H3 H4 hi ⟨x3, hw, o5, o6, rfl⟩ ⟨T0, y1, y2, rfl, hT0, rfl, hy1, hy2⟩
      have hy2 : xs[i]? = some y2 := hy2
      cases hy1
      obtain ⟨d, hd, dp, wf⟩ := hins.get hy2
      have hdl := (List.getElem?_eq_some_iff.mp hd).1
      have hdr : dss.drop i = d :: dss.drop (i + 1) := by rw [List.drop_eq_getElem_cons hdl, Option.some.inj ((List.getElem?_eq_getElem hdl).symm.trans hd)]
      rw [hdr, wrongL_cons] at hw
      have x4 := x3.trans (ex_new (o := .tup [V.int i, y2]) hT0)
      refine ⟨T0, _, rfl, .of upd_same, rfl, _, _, rfl, _, _, rfl, rfl, ?_⟩
      generalize upd H3 T0 (.tup [V.int i, y2]) = H4 at x4 ⊢
      have bad : ∀ H5, Ex H H5 → (goodIns d = false ∨ i = 20) → ∀ dd, H5 dd = none → E (.ref (ga K "InvalidMap")) (some dd) (upd H5 dd (.xd [("index", .int i)])) := fun H5 x5 hb dd hdd => by
        rw [if_pos hb] at hw
        exact f i (by rw [← hw]; rfl) dd _ (x5.trans (ex_new hdd)) upd_same
      refine ⟨_, rfl, rfl, _, rfl, ?_⟩
      refine ifB (fun e => ?_) (fun e => ?_)
      · have hi20 : i = 20 := by have := V.int.inj (of_decide_eq_true e); omega
        exact ⟨_, rfl, rfl, bad _ x4 (.inr hi20)⟩
      · have hi20 : i ≠ 20 := fun h => by rw [h] at e; exact absurd e (by decide)
        cases dp with
        | @tup pa ys _ hs hds =>
        refine ⟨_, rfl, pa, ys, d, rfl, Evl.ex_t x4 hs, dps_ex x4 hds, wf, fun b5 H5 e5 x5 => ⟨_, rfl, ?_⟩⟩
        rw [e5]
        refine ifB (fun e6 => ?_) (fun e6 => ?_)
        · exact ⟨_, rfl, rfl, bad _ (x4.trans x5) (.inl (by simpa using e6))⟩
        · have hg : goodIns d = true := by simpa using e6
          rw [if_neg (by rw [hg]; simp [hi20])] at hw
          exact ⟨x4.trans x5, hw, _, _, rfl⟩
    · rintro σ H3 ⟨x3, hw, o5, o6, rfl⟩
      rw [hins.len, List.drop_of_length_le (Nat.le_refl _)] at hw
      have hw : wrongL dss 0 = none := hw.symm
      refine ⟨_, rfl, _, rfl, a, _, dx, [], rfl, x3 _ _ hi, T.cl_Map, T.na_Map_own_island, by decide, ?_⟩
      refine ⟨_, rfl, _, rfl, a, _, dx, [("own_island", .ref ia)], rfl, upd_same, T.cl_Map, T.na_Map_own_signs, by simp, ?_⟩
      refine ⟨_, rfl, _, rfl, a, _, dx, [("own_island", .ref ia), ("own_signs", .str z)], rfl, upd_same, T.cl_Map, T.na_Map_own_facings, by simp, ?_⟩
      have hab : ib ≠ a := fun e => by rw [e, hi] at hib; cases hib
      refine ⟨_, rfl, ib, xs, rfl, .inl ⟨.of (by rw [upd_ne hab, upd_ne hab, upd_ne hab]; exact x3 _ _ hib), fun t ht => ⟨_, rfl, a, _, dx, [("own_island", .ref ia), ("own_signs", .str z), ("own_facings", .ref fb)], rfl, (ex_new ht) _ _ upd_same, T.cl_Map, T.na_Map_own_instructions, by simp, q hw t _ (fun c o h => ?_) ?_⟩⟩⟩
      · by_cases hca : c = a
        · rw [hca, upd_same] at h ⊢
          exact h
        · rw [upd_ne hca] at h ⊢
          refine (ex_new ht) _ _ ?_
          rw [upd_ne hca, upd_ne hca, upd_ne hca]
          exact x3 _ _ h
      · refine .of ?_
        have hta : t ≠ a := fun e => by rw [e, upd_same] at ht; cases ht
        rw [upd_ne hta]
        exact upd_same
end
end Om
end PartA12
section PartRu6
set_option Elab.async false
set_option linter.all false
set_option maxRecDepth 100000
set_option maxHeartbeats 4000000
/-! Rule: a list comprehension whose element is a call that may raise: the exception leaves the block, then the def. -/
namespace Om
open PySem PySem.Spec PyProof.Rows L2
section
variable {X : Cx} {pins : List (Addr × Obj)} {σ : L2.St} {H : Hp} {s s' : Shared} {E : XK}
/-- a call let an exception out: it flies, the rest is a state of ours -/
theorem call_flies (I : Inv X pins σ H s) {u : Value} (c : L2.CX X.prog X.w X.stack H s E u s') : ∃ (a : Addr) (B : Heap) (sI : Shared) (H' : Hp) (cls : Value) (d : Option Addr), u = .ref a ∧ Inv X pins σ H' sI ∧
    (∀ b o, sI.heap.get? b = some o → b ∉ frs X.stack → B.get? b = some o) ∧ sI.heap.UpToSlots s'.heap ∧ HandSPX.FlyingZ B X.stack a (Zc cls d) s'.heap ∧ H' a = none ∧ s'.os = sI.os ∧ AllBare s'.gens ∧ E cls d H' := by
  obtain ⟨a, B, H', cls, d, rfl, fl, hok, ub, na, os, ag, hE⟩ := c
  obtain ⟨G, g1, g2⟩ := restrict s'.heap fun b => (B.get? b).isSome || decide (b ∈ frs X.stack)
  have gB : ∀ b o, B.get? b = some o → G.get? b = some o := fun b o e => (g1 b (by simp [e])).trans (fl.1 b o e)
  have gF : ∀ b, b ∈ frs X.stack → G.get? b = s'.heap.get? b := fun b hb => g1 b (by simp [hb])
  have og : ∀ b o, G.get? b = some o → s'.heap.get? b = some o ∧ ((B.get? b).isSome = true ∨ b ∈ frs X.stack) := fun b o e => by
    cases q : ((B.get? b).isSome || decide (b ∈ frs X.stack)) with
    | false => rw [g2 b q] at e; cases e
    | true => exact ⟨(g1 b q).symm.trans e, by simpa [Bool.or_eq_true] using q⟩
  refine ⟨a, B, { s with heap := G, gens := s'.gens, drawn := s'.drawn, toks := s'.toks }, H', cls, d, rfl, ?_, fun b o e hb => ?_, Heap.UpToSlots.of_keeps fun b o e => (og b o e).1, fl, na, os, ag, hE⟩
  · refine I.call (ch := []) ⟨fun b o e n hb _ => gB b o (ub.keep b o e n hb), fun b o e n hb _ => ?_, fun b o e n _ => ub.free b o e n, fun b o e _ => ?_, ub.tups, ub.frzs, ub.tbls⟩ (hok.kept gB) ag (fun _ z => nomatch z)
    · obtain ⟨sl, q⟩ := ub.slot b o e hb
      exact ⟨sl, (gF b hb).trans q⟩
    · by_cases hb : b ∈ frs X.stack
      · obtain ⟨sl, q⟩ := ub.slot b o e hb
        exact ⟨_, (gF b hb).trans q⟩
      · obtain ⟨o', q⟩ := ub.there b o e hb
        exact ⟨o', gB b o' q⟩
  · obtain ⟨e', h⟩ := og b o e
    rcases h with h | h
    · obtain ⟨o', q⟩ := Option.isSome_iff_exists.mp h
      have z := fl.1 b o' q
      rw [e'] at z
      cases z
      exact q
    · exact absurd h hb
end
/-- what the element's call lets out, in the block -/
def xBlk (Xb : Cx) (E : XK) (u : Value) (s' : Shared) : Prop := ∃ (pins : List (Addr × Obj)) (σ : L2.St) (H : Hp) (s : Shared), Inv Xb pins σ H s ∧ L2.CX Xb.prog Xb.w Xb.stack H s E u s'
/-- the block whose element raises -/
abbrev Cx.blkX (X : Cx) (s : Shared) (H : Hp) (scope : Scope) (cenv : Env) (fp : List Addr) (E : XK) : Cx := (X.blk s H scope cenv fp).wish (xBlk (X.blk s H scope cenv fp) E)
theorem pass_blk {X : Cx} {s : Shared} {H : Hp} {scope : Scope} {cenv : Env} {fp : List Addr} {E : XK} : Passes (L2.CX X.prog X.w) (Om.Cx.blkX X s H scope cenv fp E) E := fun pins σ H' s1 e s2 I c => ⟨pins, σ, H', s1, I.unwish, c⟩
section
variable {X : Cx} {pins : List (Addr × Obj)} {σ : L2.St} {H3 : Hp} {s3 s' : Shared} {E : XK} {W : WX} {scope : Scope} {ce : Env} {fp : List Addr} {u : Value}
/-- out of the block, into the def's air -/
theorem blk_out (hs : X.stack = X.env :: X.outer) (hf : X.env.frame = some X.env.locals) (tk : Takes X W) (hW : ∀ cls d H', E cls d H' → W cls d σ H') (I3 : Inv X pins σ H3 s3) (hL : ce.locals = s3.heap.objs.size) (hfr : ce.frame = X.env.frame)
    (f3 : ∀ b ∈ fp, FpOk X pins H3 b ∧ b < s3.heap.objs.size) (x : xBlk (X.blk s3 H3 scope ce fp) E u s') : notedBy (model X.prog X.w) X.A ce (CompFails (model X.prog X.w) X.A X.xe ce) u s' := by
  obtain ⟨pb, σb, Hb, sb, Ib, c⟩ := x
  obtain ⟨a, B, sI, H', cls, d, rfl, J, nb, up, fl, na, os, ag, hE⟩ := call_flies Ib c
  have fl : HandSPX.FlyingZ B X.stack a (Zc cls d) s'.heap := fl
  have nb : ∀ b o, sI.heap.get? b = some o → b ∉ frs X.stack → B.get? b = some o := nb
  have hC : H' ce.locals = none := J.free
  obtain ⟨mC, hnC, _⟩ := id J.loc
  have hnC : sI.heap.Ns ce.locals mC := hnC
  have hfrs : X.A.frames = some (X.env :: X.outer) := by rw [I3.ok.frames, hs]
  show wpAny _ _ (noteFrame (.ref a) ce) _ _ s'
  rw [noteFrame_env _ hfr]
  rw [hs] at fl
  refine HandSPX.looks_onZ Zc.steady hfrs hf fl fun h1 hh up1 => ?_
  have n1 : h1.Ns ce.locals mC := (hnC.upToSlots up).upToSlots up1
  refine ⟨mC, n1, fun h2 m2 n2 sb2 => ?_⟩
  obtain ⟨k1, k2, k3, oe, vs, Tt, oT, ts, t1, t2, t3, t4, t5, t6, t7, t8, t9⟩ := hh
  obtain ⟨oC, esC, epC, hCo, hCd, _⟩ := id n1
  have aC : a ≠ ce.locals := fun z => by
    rw [z, hCo] at t1
    cases t1
    rw [hCd] at t3
    cases t3
  have TC : Tt ≠ ce.locals := fun z => by
    rw [z, hCo] at t7
    cases t7
    rw [hCd] at t8
    cases t8
  -- the ground without the block's names
  obtain ⟨B2, b1, b2⟩ := restrict B fun b => decide (b ≠ ce.locals)
  have bk : ∀ b, b ≠ ce.locals → B2.get? b = B.get? b := fun b hb => b1 b (decide_eq_true hb)
  have bC : B2.get? ce.locals = none := b2 _ (by simp)
  have bn : ∀ {b : Addr}, B.get? b = none → B2.get? b = none := fun {b} hb => by
    by_cases h : b = ce.locals
    · rw [h, bC]
    · rw [bk b h, hb]
  have st2 : B2.StaysIn h2 := fun b o e => by
    have hb : b ≠ ce.locals := fun z => by rw [z, bC] at e; cases e
    exact (sb2.2 b hb).trans (k1 b o ((bk b hb).symm.trans e))
  have ff2 : h2.FunFrames B2 (X.env :: X.outer) := funFrames_none (Heap.FunFrames.sameBut sb2 n2 k3) fun L hm => bn (k3.mem hm).1
  have tr2 : HandSPX.TracedZ h2 B2 a (Zc cls d) (rawInt X.env.locals) := ⟨oe, vs, Tt, oT, ts, (sb2.2 a aC).trans t1, t2, t3, t4, bn t5, t6, (sb2.2 Tt TC).trans t7, t8, t9⟩
  unfold PySem.passOn
  refine wpAny_bind (wpAny_field ((sb2.2 a aC).trans t1) t3 t4 ?_)
  rw [if_neg (show ¬ ((Value.ref Tt == Value.none) = true) from by simp)]
  rw [hfr, hf]
  refine wpAny_bind (HandSPX.setFlight_anyZ st2 ff2 tr2 fun h4 st4 ff4 tr4 up4 => wpAny_throw (tk _ _ ?_))
  -- the state without the block's names
  obtain ⟨G, g1, g2⟩ := restrict sI.heap fun b => decide (b ≠ ce.locals)
  have gk : ∀ b, b ≠ ce.locals → G.get? b = sI.heap.get? b := fun b hb => g1 b (decide_eq_true hb)
  have gC : G.get? ce.locals = none := g2 _ (by simp)
  have go : ∀ {b : Addr} {o : Obj}, G.get? b = some o → b ≠ ce.locals ∧ sI.heap.get? b = some o := fun {b o} e => by
    have hb : b ≠ ce.locals := fun z => by rw [z, gC] at e; cases e
    exact ⟨hb, (gk b hb).symm.trans e⟩
  have lt3 : ∀ {b : Addr} {o : Obj}, s3.heap.get? b = some o → b ≠ ce.locals := fun {b o} e => by
    rw [hL]
    exact Nat.ne_of_lt (Heap.lt_size e)
  have un : Un (frs X.stack) fp H3 H' s3.heap sI.heap := J.base
  have hokG : HOk X.prog X.w H' G := fun b o e => (J.hok b o e).stay (fun c v hc z => by
      have hcC : c ≠ ce.locals := fun q => by
        rcases hc with hc | hc
        · rw [← hc, q, hC] at e; cases e
        · rw [q, hC] at hc; cases hc
      exact (gk c hcC).trans z) (fun _ q => q) fun _ _ q => q
  have osI : sI.os = s3.os := J.os
  refine ⟨a, B2, { sI with heap := G }, pins, σ, H', cls, d, rfl, ?_, fun b o e hb => ?_, fun b o e hn => ?_, ?_, na, os, ag, hW _ _ _ hE⟩
  · refine I3.call' (ch := fp) osI ⟨fun b o e n hb hx => (gk b (lt3 e)).trans (un.keep b o e n hb hx), fun b o e n hb hx => ?_, un.free, fun b o e hx => ?_, un.tups, un.frzs, un.tbls⟩ hokG J.bare
      fun b hb => ⟨(f3 b hb).1.2.2.2.1, (f3 b hb).1.2.1, (f3 b hb).1.2.2.2.2.1, (f3 b hb).1.2.2.2.2.2⟩
    · obtain ⟨sl, q⟩ := un.slot b o e n hb hx
      exact ⟨sl, (gk b (lt3 e)).trans q⟩
    · obtain ⟨o', q⟩ := un.there b o e hx
      exact ⟨o', (gk b (lt3 e)).trans q⟩
  · obtain ⟨hbC, e'⟩ := go e
    exact (bk b hbC).trans (nb b o e' hb)
  · obtain ⟨hbC, e'⟩ := go e
    obtain ⟨sl1, e1⟩ := up b o e' hn
    obtain ⟨sl2, e2⟩ := up1 b _ e1 hn
    obtain ⟨sl3, e3⟩ := up4 b _ ((sb2.2 b hbC).trans e2) hn
    exact ⟨sl3, e3⟩
  · rw [hs]
    exact .inr (.inr ⟨st4, bn k2, ff4, tr4⟩)
end
section
variable {X : Cx} {W : WX} {E : XK} {elt tg iter : Expr} {scope : Scope} {own : List (Str × Nat)} {pos : Pos} {wi : TI} {g : TG} {te : TE}
/-- [elt for tg in iter], elt may raise as E says -/
theorem pe_lcX (hs : X.stack = X.env :: X.outer) (hf : X.env.frame = some X.env.locals) (tk : Takes X W) (hW : ∀ cls d σ H', E cls d H' → W cls d σ H') (hc : X.calm = true) (hN : X.N.Nodup) (hi : PI X tg iter wi) (ok : BlkOk X.N X.env.scope scope own)
    (hg : ∀ (s : Shared) (H : Hp) (C : Addr) (cl : List (Str × Addr)) (fp : List Addr), PG (X.blk s H scope (compEnvC scope cl C X.env) fp) tg g)
    (he : ∀ (s : Shared) (H : Hp) (C : Addr) (cl : List (Str × Addr)) (fp : List Addr), PE (Om.Cx.blkX X s H scope (compEnvC scope cl C X.env) fp E) elt te) (hsI : ∀ x, foldedSetIterable iter X.env x = pure x := by intro _; rfl) :
    PE X (.ListComp elt [⟨tg, iter, [], 0⟩] scope pos) (tLc wi g tYes te (own.map (·.2))) := by
  refine ⟨fun pins s σ H Q I h => ?_⟩
  rw [eval_ListComp]
  have hfree : ∀ y ∈ scope.names, y.2 = .free → ∃ c, X.env.cells.lookup y.1 = some c := fun y hy e => I.ok.has _ (by
    rcases ok.free y hy e with k | k
    · exact .inl k
    · exact .inr k)
  refine comprehension_at (use := none) rfl hsI (closure_ok hfree) ok.kind (fun y hy e => by rw [ok.uniq y hy, e]) (thn (hi.run pins s σ H _ I h) fun xv s1 hx => thn hx fun itv s2 h2 => ?_)
  obtain ⟨it, fp, tn, J, H2, e, I2, Tn, st2, f2, q⟩ := h2
  subst e
  refine wpAny_newObj_type (newEnv_comp ?_) (by show 0 ≤ sizeLine; decide)
  generalize hD : s2.heap.objs.size = D
  have hDn : H2 D = none := I2.hok.fresh (Nat.le_of_eq hD)
  obtain ⟨Wl, ⟨m0, w0⟩, turn⟩ := q D hDn
  generalize hs3 : ({ s2 with heap := s2.heap.push { cls := .type "list", data := .seq ([] : List Value).toArray } } : Shared) = s3
  have h3 : s3.heap = s2.heap.push { cls := .type "list", data := .seq ([] : List Value).toArray } := by rw [← hs3]
  have I3 : Inv X pins σ (upd H2 D (.lst [])) s3 := by
    rw [← hs3]
    refine I2.laid (t' := s2.toks) (fun b o e => Heap.get?_push_of_some _ e) (Nat.le_of_eq hD) ⟨Nat.zero_le _, [], 0, .nil, ?_⟩
    rw [← hD]
    exact Heap.get?_push_size _ rfl
  have f3 : ∀ b ∈ fp, FpOk X pins (upd H2 D (.lst [])) b ∧ b < s3.heap.objs.size := fun b hb => by
    obtain ⟨o, e, _⟩ := Tn.obj _ _ st2 b hb
    have hlt := Heap.lt_size e
    refine ⟨⟨?_, (f2 b hb).2⟩, by rw [h3, Heap.size_push]; exact Nat.lt_succ_of_lt hlt⟩
    rw [upd_ne (show b ≠ D by rw [← hD]; exact Nat.ne_of_lt hlt)]
    exact (f2 b hb).1
  have st3 : tn 0 s3.heap := Tn.keep _ _ _ st2 fun b _ o e => by rw [h3]; exact Heap.get?_push_of_some _ e
  have I4 := block_start I3 ok hN f3
  have pg := hg s3 (upd H2 D (.lst [])) s3.heap.objs.size (cellsFrom (s3.heap.objs.size + 1) scope.names (cloFrom X.env.cells scope.names [])) fp
  have pe := he s3 (upd H2 D (.lst [])) s3.heap.objs.size (cellsFrom (s3.heap.objs.size + 1) scope.names (cloFrom X.env.cells scope.names [])) fp
  show codeAny _ _ (.compStart (.ListComp elt [⟨tg, iter, [], 0⟩] scope pos) 0 (.ref it) (.ref D) (compEnvC scope (cellsFrom (s3.heap.objs.size + 1) scope.names (cloFrom X.env.cells scope.names [])) s3.heap.objs.size X.env))
    (compEnds (model X.prog X.w) X.A X.xe none _ (.ref D) (compEnvC scope (cellsFrom (s3.heap.objs.size + 1) scope.names (cloFrom X.env.cells scope.names [])) s3.heap.objs.size X.env)) { s3 with heap := pushCells (s3.heap.push { cls := .type "dict", data := .dict #[] }) scope.names }
  have nfp : ∀ b ∈ fp, (upd H2 D (.lst [])) b = none := fun b hb => (f3 b hb).1.1
  generalize hce : compEnvC scope (cellsFrom (s3.heap.objs.size + 1) scope.names (cloFrom X.env.cells scope.names [])) s3.heap.objs.size X.env = ce at I4 pg pe ⊢
  have cL : ce.locals = s3.heap.objs.size := by rw [← hce]; rfl
  have cF : ce.frame = X.env.frame := by rw [← hce]; rfl
  generalize hH3 : upd H2 D (.lst []) = H3 at I3 I4 pg pe w0 nfp f3
  generalize hs4 : ({ s3 with heap := pushCells (s3.heap.push { cls := .type "dict", data := .dict #[] }) scope.names } : Shared) = s4 at I4 ⊢
  have st4 : tn 0 s4.heap := Tn.keep _ _ _ st3 fun b _ o e => by rw [← hs4]; exact pushCells_keeps _ _ _ _ (Heap.get?_push_of_some _ e)
  have stat : ∀ {σ' : L2.St} {H' : Hp} {s' : Shared}, Inv (X.blk s3 H3 scope ce fp) [] σ' H' s' → (∀ b ∈ fp, H' b = none) → ∀ b ∈ fp, FpOk (X.blk s3 H3 scope ce fp) [] H' b := fun {σ' H' s'} I' hn b hb =>
    ⟨hn b hb, (I'.ok.exf b hb).1, I'.ok.exfs b hb, .inl hb, fun x c e => (I'.ok.exf b hb).2 x c e, fun p hp => absurd (show p ∈ ([] : List (Addr × Obj)) ++ [] from hp) (by simp)⟩
  have loop : codeAny (model X.prog X.w) X.A (.compLoop (.ListComp elt [⟨tg, iter, [], 0⟩] scope pos) 0 (.ref it) (.ref D) ce) (compEnds (model X.prog X.w) X.A X.xe none (EP X pins σ Q) (.ref D) ce) s4 := by
    refine compLoop_any (fun n s' => ∃ i H', Inv (X.blk s3 H3 scope ce fp) [] (wipe σ (own.map (·.2))) H' s' ∧ tn i s'.heap ∧ (∀ b ∈ fp, H' b = none) ∧ Wl i n H') ?_ m0 ⟨0, H3, I4, st4, nfp, w0⟩
    rintro n s5 ⟨i, H5, I5, st5, n5, w5⟩
    rcases turn i n H5 w5 with ⟨stop, qq⟩ | ⟨go, Nx, hNx, step⟩
    · refine thnF (Tn.done (X.blk s3 H3 scope ce fp) rfl rfl rfl hc i [] s5 _ H5 (fun _ _ => False) I5 (stat I5 n5) st5 stop) fun r s6 ⟨hr, I6⟩ => ?_
      subst hr
      have I7 : Inv X pins σ H5 s6 := I3.call' (ch := fp) I6.os I6.base I6.hok I6.bare fun b hb => ⟨(f3 b hb).1.2.2.2.1, (f3 b hb).1.2.1, (f3 b hb).1.2.2.2.2.1, (f3 b hb).1.2.2.2.2.2⟩
      have nC : H5 s3.heap.objs.size = none := by
        have z : H5 ce.locals = none := I6.free
        rw [cL] at z
        exact z
      obtain ⟨m, hn, _⟩ := I6.loc
      have hn : s6.heap.Ns ce.locals m := hn
      refine ⟨m, hn, fun h'' sb => ?_⟩
      rw [cL] at sb
      obtain ⟨f0, f1, f2, f3, f4, f5⟩ := I3.fpOk (Nat.le_refl _) nC
      exact ⟨.ref D, H5, I7.turned (t' := s6.toks) (fun b o hb e => (sb.2 b hb).trans e) f0 f1 f3 f4 f5, rfl, qq⟩
    · refine thnF (Tn.item (X.blk s3 H3 scope ce fp) rfl rfl rfl hc i [] s5 _ H5 (fun _ _ => False) I5 (stat I5 n5) st5 go) fun r s6 ⟨u, hr, h6⟩ => ?_
      subst hr
      refine thnF h6 fun _ s7 ⟨x, H7, I7, r7, y7, st7, n7⟩ => ?_
      have I7' := I7.pinned (stat I7 n7) (Tn.obj _ _ st7)
      refine thnF (pg.run _ s7 _ H7 x u _ I7' r7 (step x H7 y7)) fun _ s8 ⟨σ8, H8, I8, hw8, q8⟩ => ?_
      have q8 : te σ8 H8 fun y H4 => ∃ acc, H4 D = some (.lst acc) ∧ acc.length < sizeLine ∧ Nx (upd H4 D (.lst (acc ++ [y]))) := by
        have z : (if true = true then te σ8 H8 fun y H4 => ∃ acc, H4 D = some (.lst acc) ∧ acc.length < sizeLine ∧ Nx (upd H4 D (.lst (acc ++ [y]))) else Nx H8) := q8
        simpa using z
      refine wpAny_tests_nil ?_
      simp only [if_true]
      refine wpAny_mono (pe.run _ s8 σ8 H8 _ (I8.wish _) q8) (fun z s10 hz => ?_) fun u' s' hx => blk_out hs hf tk (fun cls d H' h => hW cls d σ H' h) I3 cL cF f3 hx
      obtain ⟨yv, H10, I10, r10, acc, hD10, hz10, nx⟩ := hz
      have I10 := I10.unwish
      refine thnF (app_ok (X := X.blk s3 H3 scope ce fp) I10 hD10 hz10 r10 (Q := fun _ s' => ∃ m, m < n ∧ ∃ i H', Inv (X.blk s3 H3 scope ce fp) [] (wipe σ (own.map (·.2))) H' s' ∧ tn i s'.heap ∧ (∀ b ∈ fp, H' b = none) ∧ Wl i m H') fun s11 I11 => ?_) fun _ _ z => z
      obtain ⟨m', hm, w'⟩ := hNx _ nx
      have pin' : ∀ b ∈ fp, ∀ o, s7.heap.get? b = some o → s11.heap.get? b = some o ∧ upd H10 D (.lst (acc ++ [yv])) b = none := fun b hb o e =>
        let z := I11.pin (b, o) (List.mem_append_right _ (List.mem_append_right _ (mem_pinsAt hb e)))
        ⟨z.1, z.2.1⟩
      have hl : (wipe σ (own.map (·.2))).length = σ8.length := by rw [← hw8, wipe_length]
      refine ⟨m', hm, i + 1, _, (I11.unpinned (pins := [])).weak hl (fun j v e => ?_), Tn.keep _ _ _ st7 fun b hb o e => (pin' b hb o e).1, fun b hb => ?_, w'⟩
      · rw [← hw8] at e
        exact (wipe_some e).1
      · obtain ⟨o, e, _⟩ := Tn.obj _ _ st7 b hb
        exact (pin' b hb o e).2
  exact codeAny_compStart_list loop (Tn.self X.A 0 _ _ _ st4 loop)
end
end Om
end PartRu6
section PartA13
set_option Elab.async false
set_option linter.all false
set_option maxRecDepth 100000
set_option maxHeartbeats 400000
namespace Om
open PySem PySem.Spec PyProof.Rows L2 He TL
theorem wf_tup {ds : List PyData} (h : Wf ds) : tupD 8 (.tuple ds) = true := by
  have k : ∀ {s : Str} {r : List PyData}, PyData.strOk s = true → tupDs 7 r = true → tupD 8 (.tuple (.str s :: r)) = true := fun {s r} a b => by
    unfold tupD tupDs tupD
    rw [a, b]
    rfl
  have i : ∀ {v : Int} {r : List PyData}, tupDs 7 r = true → tupDs 7 (.int v :: r) = true := fun {v r} b => by
    unfold tupDs tupD
    rw [b]
    rfl
  have s : ∀ {z : Str} {r : List PyData}, PyData.strOk z = true → tupDs 7 r = true → tupDs 7 (.str z :: r) = true := fun {z r} a b => by
    unfold tupDs tupD
    rw [a, b]
    rfl
  have n : tupDs 7 [] = true := by unfold tupDs; rfl
  cases h with
  | turn ts h1 h2 h3 =>
    refine k (by decide +kernel) ?_
    unfold tupDs tupD
    rw [tupDs_int 6, n]
    rfl
  | walk a b _ _ => exact k (by decide +kernel) (i (i n))
  | untl z _ _ o => exact k (by decide +kernel) (s o n)
  | towd z _ _ o => exact k (by decide +kernel) (s o n)
  | besd t z _ _ _ o => exact k (by decide +kernel) (i (s o n))
  | near z m _ _ _ o => exact k (by decide +kernel) (s o (i n))
  | shor a b c _ _ _ => exact k (by decide +kernel) (i (i (i n)))
theorem InsAt.of {K : Frg} {H : Hp} : ∀ {xs : List V} {dss : List (List PyData)}, DpAll K H xs (dss.map PyData.tuple) → (∀ d ∈ dss, Wf d) → InsAt K H xs dss
  | _, [], h, _ => by cases h; trivial
  | _, d :: s, h, hw => by
    cases h with
    | cons h1 h2 => exact ⟨h1, hw d (.head _), InsAt.of h2 fun e he => hw e (.tail _ he)⟩
theorem exK {S : List Addr} {H H1 H' : Hp} (k : Ky S H1 H') (e : Ex H H1) (h : ∀ a ∈ S, H a = none) : Ex H H' := fun b o hb => k.1 b o (fun hm => by
  rw [h b hm] at hb
  cases hb) (e b o hb)
theorem notin_take {l : List Addr} (h : l.Nodup) {j n : Nat} {a : Addr} (hj : l[j]? = some a) (hn : n ≤ j) : a ∉ l.take n := fun hm => by
  obtain ⟨i, hi, e⟩ := List.getElem_of_mem hm
  rw [List.getElem_take] at e
  have hlt := (List.getElem?_eq_some_iff.mp hj).1
  have e2 := (List.getElem?_eq_some_iff.mp hj).2
  rw [List.length_take] at hi
  have := (List.getElem_inj (h₀ := by omega) (h₁ := hlt) h).mp (e.trans e2.symm)
  omega
section
variable {w : World} {K : Frg} {mg : Str → Option Value} {base : Heap}
/-- a map of a chart -/
def MapAt (K : Frg) (H : Hp) (m : Addr) (c : Chart) : Prop := ∃ (dx ia idx rb fb tb : Addr) (xs : List V), H m = some (.ins (ga K "Map") dx [("own_island", .ref ia), ("own_signs", .str c.signs), ("own_facings", .ref fb), ("own_instructions", .ref tb)]) ∧
  H ia = some (.ins (ga K "Island") idx [("own_rows", .ref rb)]) ∧ SqT K H rb (c.rows.map V.str) ∧ SqT K H fb (c.facs.map V.int) ∧ SqT K H tb xs ∧ DpAll K H xs (c.ins.map PyData.tuple)
def sp_parse_map (K : Frg) : Sp := fun vs H Q E => ∃ z : Str, vs = [.str z] ∧ z.cps.size ≤ 100000 ∧ (∀ l ∈ Txt.split z "\n", l.cps.size ≤ 100000) ∧ OkR (rowsW z) ∧
  (∀ c, readM (rowsW z) = .ok c → wrongIx c = none → ∀ m H', Ex H H' → MapAt K H' m c → Q (.ref m) H') ∧
  (∀ r k, readM (rowsW z) = .error (r, k) → ∀ d H', Ex H H' → H' d = some (.xd [("row", .int r), ("word", .int k)]) → E (.ref (ga K "InvalidText")) (some d) H') ∧
  (∀ c i, readM (rowsW z) = .ok c → wrongIx c = some i → ∀ d H', Ex H H' → H' d = some (.xd [("index", .int i)]) → E (.ref (ga K "InvalidMap")) (some d) H')
theorem sc_parse_map : FnScope ["text", "lines", "rows", "signs", "facings", "line"] ["text"] (defScope s_parse_map) := ⟨rfl, rfl, rfl, by decide +kernel, rfl, by decide +kernel, by decide +kernel⟩
theorem ok_parse_map (T : Tx w K mg) : FnOk prg w K mg base (L2.CX prg w) 9 (ga K "parse_map") (fdOf K (ga K "parse_map")) ["text"] (sp_parse_map K) := by
  refine T.f_parse_map.ok sc_parse_map (fun vs H Q E h => ?_) (fun cdv A outer s H vs Q E hr h => ?_)
  · obtain ⟨z, rfl, _⟩ := h
    rfl
  · obtain ⟨z, rfl, hz, hlz, ok, q, ft, fm⟩ := h
    refine ⟨_, (pss_cons (ps_set (i := 1) sc_parse_map.nd rfl (Or.inl rfl) (pe_call (ok_lines_of T) (hr.mono (by decide)) (by rfl) T.g_lines_of T.f_lines_of.kp T.p_lines_of .nil pass0 (pa_cons (pv 0) pa_nil)))
      (pss_cons (ps_set (i := 2) sc_parse_map.nd rfl (Or.inl rfl) (pe_call (ok_read_island T) (hr.mono (by decide)) (by rfl) T.g_read_island T.f_read_island.kp T.p_read_island .nil (passes_call (takes_of rfl rfl rfl rfl) fun _ _ _ _ z => z) (pa_cons (pv 1) pa_nil)))
      (pss_cons (ps_asg (pe_call (ok_read_begin T) (hr.mono (by decide)) (by rfl) T.g_read_begin T.f_read_begin.kp T.p_read_begin .nil (passes_call (takes_of rfl rfl rfl rfl) fun _ _ _ _ z => z) (pa_cons (pe_ix ix_list (pv 1) (pe_op op_add (pe_callB call_len_seq (by rfl) T.b_len PySem.boot_len (pa_cons (pv 2) pa_nil)) pe_int) (fun _ _ => rfl)) pa_nil)) (pg_tup rfl (pgs_cons (pg_name (i := 3) sc_parse_map.nd rfl (Or.inl rfl)) (pgs_cons (pg_name (i := 4) sc_parse_map.nd rfl (Or.inl rfl)) pgs_nil))))
      (pss_one (ps_ret (pe_make T.mk_Map (ok_Map_init T) (hr.mono (by decide)) (by rfl) T.g_Map T.p_Map_init .nil (passes_call (takes_of rfl rfl rfl rfl) fun _ _ _ _ z => z) (pa_cons (pe_make T.mk_Island (ok_Island_init T) (hr.mono (by decide)) (by rfl) T.g_Island T.p_Island_init .nil pass0 (pa_cons (pv 2) pa_nil)) (pa_cons (pv 3) (pa_cons (pv 4) (pa_cons (pe_lcX (own := [("line", 5)]) (g := gName 5) rfl rfl (takes_of rfl rfl rfl rfl) (fun _ _ _ _ h => h) rfl sc_parse_map.nd (pi_list (pe_slice sl_list (pv 1) (po_some (pe_op op_add (pe_callB call_len_seq (by rfl) T.b_len PySem.boot_len (pa_cons (pv 2) pa_nil)) pe_int)) po_none)) (blkOk_by (own := [("line", 5)]) (N := ["text", "lines", "rows", "signs", "facings", "line"]) (sc := defScope s_parse_map) (by decide +kernel)) (fun _ _ _ _ _ => pg_name (i := 5) sc_parse_map.nd rfl (Or.inl rfl)) (fun _ _ _ _ _ => (SlX.pe_methSl0 (pv 5) T.ln T.m_Line_take_instruction ((ok_Line_take_instruction T).raw T.p_Line_take_instruction .nil) (hr.mono (by decide)) pass_blk))) pa_nil)))))))))), ?_⟩
    have hlen : (Txt.split z "\n").length ≤ 1000 := by
      have := ok.1
      unfold rowsW at this
      rw [List.length_map] at this
      exact this
    have rne : rowsW z ≠ [] := fun e => by
      unfold rowsW at e
      exact split_ne (y := "\n") (by decide +kernel) (by decide +kernel) z (List.map_eq_nil_iff.mp e)
    generalize hrws : rowsW z = rws at ok rne q ft fm
    refine ⟨_, rfl, z, rfl, hz, hlen, hlz, fun p las H1 x1 hp hrw hnd hfr => ?_⟩
    rw [hrws] at hrw
    have lat : ∀ s ∈ las, ∃ n ws k, LnW K H1 s n ws k := fun s hs => hrw.at hs
    have ftE : ∀ {r k : Nat} {H' : Hp} {S : List Addr}, readM rws = .error (r, k) → Ky las H1 H' → (∀ a ∈ S, a ∈ las) → Fails K S H' r k E := fun {r k H' S} e kk hS d H2 k2 hd => ft r k e d H2 (exK (kk.trans (k2.mono hS)) x1 hfr) hd
    refine ⟨_, rfl, p, las, rws, rfl, hp, hrw, hnd, ok, rne, fun rows hI p2 H2 k2 hp2 => ?_, fun r k hE => ftE (by unfold readM; rw [hE]) (Ky.refl _ _) fun _ h => h⟩
    obtain ⟨iok, wr, hfrom⟩ := island_ok (fun ws hws => (ok.2 ws hws).1) hI
    have kk2 : Ky las H1 H2 := k2.mono fun a ha => List.mem_of_mem_take ha
    have hp2' : H2 p = some (.lst (las.map V.ref)) := lst_keep hp k2 fun s hs => lat s (List.mem_of_mem_take hs)
    have hlt1 : rows.length + 1 < rws.length := (List.getElem?_eq_some_iff.mp hfrom).1
    obtain ⟨la, hla⟩ : ∃ la, las[rows.length + 1]? = some la := ⟨_, List.getElem?_eq_getElem (by rw [hrw.1]; exact hlt1)⟩
    obtain ⟨dxa, waa, lx1⟩ := hrw.2 _ _ _ hla hfrom
    have lx1 : LnX K H1 la _ _ _ dxa waa := lx1
    have lx2 := lx1.keep k2 (fun s hs => lat s (List.mem_of_mem_take hs)) (notin_take hnd hla (Nat.le_refl _))
    have lam : la ∈ las := List.mem_of_getElem? hla
    obtain ⟨_, wlen, wok⟩ := ok.2 _ (List.mem_of_getElem? hfrom)
    have ei : ∀ m : Nat, ((rows.map V.str).length : Int) + (m : Int) = ((rows.length + m : Nat) : Int) := fun m => by rw [List.length_map]; omega
    refine ⟨_, rfl, _, rfl, p2, _, rfl, .inr hp2, _, _, rfl, rfl, p, _, _, .ref la, rfl, rfl, .of hp2', ?_, la, _, _, dxa, waa, rfl, lx2, wok, wlen, rfl, fun z1 l hB p3 H3 k3 hq3 => ?_, fun k hE => ?_⟩
    · show atI (las.map V.ref) (((rows.map V.str).length : Int) + ((1 : Nat) : Int)) = _
      rw [ei]
      exact atI_nat (by rw [List.getElem?_map, hla]; rfl)
    · obtain ⟨fb, hq3, hfb⟩ := hq3
      obtain ⟨hz1, hsg, hl0, hlr, hll⟩ := begin_ok hB
      obtain ⟨okz1, szz1⟩ := wok z1 (List.mem_of_getElem? hz1)
      have kk3 : Ky las H1 H3 := kk2.trans (k3.mono fun a ha => by rw [List.mem_singleton.mp ha]; exact lam)
      refine ⟨p3, _, rfl, hq3, rfl, _, _, rfl, _, _, rfl, rfl, _, rfl, fun x dx hx hdx hne => ⟨x, dx, p2, rows, rfl, upd_same, Evl.ex_t (fun b o hb => by rw [upd_ne (ne_of_none hb hx), upd_ne (ne_of_none hb hdx)]; exact hb) (k3.2.sq hp2), iok, fun H4 x4 => ⟨rfl, ?_⟩⟩⟩
      have e34 : Ex H3 H4 := fun b o hb => x4 _ _ (by rw [upd_ne (ne_of_none hb hx), upd_ne (ne_of_none hb hx), upd_ne (ne_of_none hb hdx)]; exact hb)
      have hp4 : H4 p = some (.lst (las.map V.ref)) := e34 _ _ (lst_keep hp2' k3 fun s hs => by rw [List.mem_singleton.mp hs]; exact ⟨_, _, _, lx2.w⟩)
      have hp24 : SqT K H4 p2 (rows.map V.str) := Evl.ex_t e34 (k3.2.sq hp2)
      have hx4 : H4 x = some (.ins (ga K "Island") dx [("own_rows", .ref p2)]) := x4 _ _ upd_same
      have hfb4 : SqT K H4 fb (l.map V.int) := Evl.ex_t e34 hfb
      refine ⟨_, rfl, _, rfl, _, rfl, _, rfl, p2, rows.map V.str, rfl, .inr hp24, _, _, rfl, rfl, _, rfl, p, _, rfl, .of hp4, fun sl hsl => ?_⟩
      have hcv : cutV (las.map V.ref) (some (((rows.map V.str).length : Int) + 2)) none = (las.drop (rows.length + 2)).map V.ref := by
        rw [show (((rows.map V.str).length : Int) + 2) = ((rows.length + 2 : Nat) : Int) from ei 2, cutV_from, List.map_drop]
      rw [hcv]
      have xsl := ex_new (o := .lst ((las.drop (rows.length + 2)).map V.ref)) hsl
      have hsl5 : upd H4 sl (.lst ((las.drop (rows.length + 2)).map V.ref)) sl = some (.lst ((las.drop (rows.length + 2)).map V.ref)) := upd_same
      generalize upd H4 sl (.lst ((las.drop (rows.length + 2)).map V.ref)) = H5 at xsl hsl5 ⊢
      have e35 := e34.trans xsl
      have kk5 : Ky las H1 H5 := kk3.trans (.of e35)
      have hrest : ∀ (j : Nat) (lb : Addr) (ws : List Str), las[rows.length + 2 + j]? = some lb → rws[rows.length + 2 + j]? = some ws → ∃ dx wa, LnX K H5 lb ((rows.length + 2 + j : Nat) : Int) ws 0 dx wa := fun j lb ws h1 h2 => by
        obtain ⟨dxb, wab, lb1⟩ := hrw.2 _ _ _ h1 h2
        have lb1 : LnX K H1 lb ((rows.length + 2 + j : Nat) : Int) ws 0 dxb wab := lb1
        have lb2 := lb1.keep k2 (fun s hs => lat s (List.mem_of_mem_take hs)) (notin_take hnd h1 (by omega))
        have hne2 : lb ∉ [la] := fun hm => by
          have := List.mem_singleton.mp hm
          subst this
          have h3 := (List.getElem?_eq_some_iff.mp hla)
          have h4 := (List.getElem?_eq_some_iff.mp h1)
          have := (List.getElem_inj (h₀ := h3.1) (h₁ := h4.1) hnd).mp (h3.2.trans h4.2.symm)
          omega
        exact ⟨dxb, wab, (lb2.keep k3 (fun s hs => by rw [List.mem_singleton.mp hs]; exact ⟨_, _, _, lx2.w⟩) hne2).ex e35⟩
      refine ⟨sl, rfl, ⟨_, .of hsl5⟩, fun D hD => ?_⟩
      have hdn : (las.drop (rows.length + 2)).Nodup := hnd.sublist (List.drop_sublist _ _)
      have hat : ∀ s ∈ las.drop (rows.length + 2), ∃ n ws k, LnW K H5 s n ws k := fun s hs => by
        obtain ⟨j, hj, e⟩ := List.getElem_of_mem hs
        rw [List.getElem_drop] at e
        have hj2 : rows.length + 2 + j < las.length := by rw [List.length_drop] at hj; omega
        obtain ⟨_, _, g⟩ := hrest j s _ (by rw [List.getElem?_eq_getElem hj2, e]) (List.getElem?_eq_getElem (by rw [← hrw.1]; exact hj2))
        exact ⟨_, _, _, g.w⟩
      have hDl : D ∉ las.drop (rows.length + 2) := fun hm => by
        obtain ⟨_, _, _, _, _, q1, _⟩ := hat D hm
        rw [hD] at q1
        cases q1
      have hB2 : beginAt (rws.getD (rows.length + 1) []) = .ok (z1, l) := by rw [List.getD_eq_getElem?_getD, hfrom]; exact hB
      refine lc_it (walk_list (K := K) (a := sl) (xs := (las.drop (rows.length + 2)).map V.ref)) (fun i H' => Ky ((las.drop (rows.length + 2)).take i) H5 H' ∧ ∃ xs dss, H' D = some (.lst xs) ∧ DpAll K H' xs (dss.map PyData.tuple) ∧ insL ((rws.drop (rows.length + 2)).take i) (rows.length + 2) = .ok dss ∧
        dss.length = i ∧ ∀ d ∈ dss, Wf d) ⟨.new hD, [], [], upd_same, .nil, rfl, rfl, fun d hd => by cases hd⟩ (fun i H' _ h => ?_) ?_ ?_
      · exact .of (lst_keep hsl5 h.1 fun s hs => hat s (List.mem_of_mem_take hs))
      · rintro i xv Hz Hi hi ⟨ki, xs, dss, hDi, hdp, hins, hdl, hwf⟩ ⟨rfl, hxv⟩
        rw [List.getElem?_map, Option.map_eq_some_iff] at hxv
        obtain ⟨lb, hlb, rfl⟩ := hxv
        have hlbm : lb ∈ las.drop (rows.length + 2) := List.mem_of_getElem? hlb
        have hlb2 : las[rows.length + 2 + i]? = some lb := by rw [List.getElem?_drop] at hlb; exact hlb
        have hlt2 : rows.length + 2 + i < rws.length := by rw [← hrw.1]; exact (List.getElem?_eq_some_iff.mp hlb2).1
        obtain ⟨ws, hws⟩ : ∃ ws, rws[rows.length + 2 + i]? = some ws := ⟨_, List.getElem?_eq_getElem hlt2⟩
        have hws2 : (rws.drop (rows.length + 2))[i]? = some ws := by rw [List.getElem?_drop]; exact hws
        obtain ⟨dxb, wab, lx5⟩ := hrest i lb ws hlb2 hws
        obtain ⟨_, wsl, wsok⟩ := ok.2 ws (List.mem_of_getElem? hws)
        have lxi := lx5.keep ki (fun s hs => hat s (List.mem_of_mem_take hs)) (notin_take hdn hlb (Nat.le_refl i))
        obtain ⟨_, _, _, hsb, _⟩ := lxi.slt
        have hDb : D ∉ [lb] := fun hm => hDl (by rw [List.mem_singleton.mp hm]; exact hlbm)
        refine ⟨rfl, tY ?_⟩
        refine ⟨_, rfl, lb, dxb, _, rfl, hsb, lb, _, ws, dxb, wab, rfl, lxi, wsok, wsl, fun ds hr v H' k' dp => ?_, fun e hr => ?_⟩
        · have hD' := k'.1 D _ hDb hDi
          have wf := row_wf wsok wsl hr
          have tds : tupDs 8 (dss.map PyData.tuple) = true := by
            have : ∀ s : List (List PyData), (∀ d ∈ s, Wf d) → tupDs 8 (s.map PyData.tuple) = true := fun s => by
              induction s with
              | nil => intro _; unfold tupDs; rfl
              | cons d r ih =>
                intro hw
                show tupDs 8 (.tuple d :: r.map PyData.tuple) = true
                unfold tupDs
                rw [wf_tup (hw d (.head _)), ih fun e he => hw e (.tail _ he)]
                rfl
            exact this dss hwf
          have tk : Tk H' (upd H' D (.lst (xs ++ [v]))) := Tk.upd (rd_lst hD')
          refine ⟨xs, hD', Evl.sz_lt (by rw [dps_len hdp, List.length_map, hdl]; have := ok.1; omega), ((ki.mono fun a ha => ?_).trans (k'.mono fun a ha => ?_)).mut hD, xs ++ [v], dss ++ [ds], upd_same, ?_, ins_step hins hws2 hr, by rw [List.length_append, hdl]; rfl, fun d hd => ?_⟩
          · exact List.take_subset_take_left _ (Nat.le_succ _) ha
          · rw [List.mem_singleton.mp ha, List.take_add_one, hlb]
            simp
          · rw [List.map_append]
            exact dps_app (dps_tk (k'.2.trans tk) tds hdp) (.cons (dp_tk tk (wf_tup wf) dp) .nil)
          · rcases List.mem_append.mp hd with hd | hd
            · exact hwf d hd
            · rw [List.mem_singleton.mp hd]
              exact wf
        · refine ftE ?_ (kk5.trans (ki.mono fun a ha => List.mem_of_mem_drop (List.mem_of_mem_take ha))) fun a ha => by rw [List.mem_singleton.mp ha]; exact List.mem_of_getElem? hlb2
          unfold readM
          rw [hI]
          simp only
          rw [hB2]
          simp only
          rw [ins_bad hins hws2 hr]
      · rintro H6 ⟨k6, xs, dss, hD6, hdp, hins, hdl, hwf⟩
        rw [List.length_map] at hins hdl
        have hins2 : insL (rws.drop (rows.length + 2)) (rows.length + 2) = .ok dss := by
          rw [List.length_drop, hrw.1, ← List.length_drop, List.take_length] at hins
          exact hins
        have hR : readM rws = .ok ⟨rows, z1, l, dss⟩ := by
          unfold readM
          rw [hI]
          simp only
          rw [hB2]
          simp only
          rw [hins2]
        have kk6 : Ky las H1 H6 := kk5.trans (k6.mono fun a ha => List.mem_of_mem_drop (List.mem_of_mem_take ha))
        have xH6 : Ex H H6 := exK kk6 x1 hfr
        have hx6 : H6 x = some (.ins (ga K "Island") dx [("own_rows", .ref p2)]) := k6.1 x _ (fun hm => by
          obtain ⟨_, _, _, _, _, q1, _⟩ := hat x (List.mem_of_mem_take hm)
          rw [xsl _ _ hx4] at q1
          cases q1) (xsl _ _ hx4)
        have hp26 : SqT K H6 p2 (rows.map V.str) := k6.2.sq (Evl.ex_t xsl hp24)
        have hfb6 : SqT K H6 fb (l.map V.int) := k6.2.sq (Evl.ex_t xsl hfb4)
        intro m mdx hm hmdx hmn
        have x67 : Ex H6 (upd (upd H6 mdx (.own m)) m (.ins (ga K "Map") mdx [])) := fun b o hb => by rw [upd_ne (ne_of_none hb hm), upd_ne (ne_of_none hb hmdx)]; exact hb
        refine ⟨m, mdx, x, fb, D, z1, l, xs, dss, rfl, upd_same, hsg, okz1, szz1, Evl.ex_t x67 hfb6, hl0, by omega, hlr, x67 _ _ hD6, InsAt.of (dps_ex x67 hdp) hwf, by rw [hdl, List.length_drop, hrw.1]; have := ok.1; omega, fun hris hwn t H7 x7 ht => ⟨rfl, ?_⟩, fun i hi d H7 x7 hd => ?_⟩
        · have x68 : Ex H6 H7 := fun b o hb => x7 _ _ (by rw [upd_ne (ne_of_none hb hm)]; exact x67 _ _ hb)
          refine q _ hR ?_ m H7 (xH6.trans x68) ⟨mdx, x, dx, p2, fb, t, xs, x7 _ _ upd_same, x68 _ _ hx6, Evl.ex_t x68 hp26, Evl.ex_t x68 hfb6, ht, dps_ex x68 hdp⟩
          unfold wrongIx
          rw [if_neg (by rw [hris]; exact fun e => by cases e), hwn]
          rfl
        · exact fm _ i hR hi d H7 ((xH6.trans x67).trans x7) hd
    · have e2 : readM rws = .error (rows.length + 1, k) := by
        unfold readM
        rw [hI]
        simp only
        rw [List.getD_eq_getElem?_getD, hfrom]
        simp only [Option.getD_some, hE]
      exact ftE e2 kk2 fun a ha => by rw [List.mem_singleton.mp ha]; exact lam
end
end Om
end PartA13
section PartRu7
set_option Elab.async false
set_option linter.all false
set_option maxRecDepth 100000
set_option maxHeartbeats 2000000
/-! Rule: isinstance(e, C) in an except suite, e with a dict of its own. -/
namespace Om
open PySem PySem.W PySem.Spec PySem.Calls PyProof.Rows
section
variable {prog : Program} {w : World} {A : Around} {E : Value → Shared → Prop} {s : Shared} {K : Frg} {x D : Addr} {ox : Obj} {od : Option Obj}
theorem find_cls {name : Str} {a g : Value} (hc : (clsIn K D).isSome = true) (ha : findIn K (.ref D) name = some (some a)) (hg : specialIn K a "__get__" = some (some g)) (ht : takesIn K a = some true) : findObj K D od name = some (.bind g a) := by
  obtain ⟨cd, hc⟩ := Option.isSome_iff_exists.mp hc
  unfold findObj
  rw [hc, Option.bind_some, ha, Option.bind_some]
  simp [hg, ht]
/-- e.__class__ is asked -/
theorem cls_asked {Q : Option Value → Shared → Prop} (C : L2.ExcC K D) (X : K.In s.heap) (I : InstAt s.heap x ox D od) (h : Q (some (.ref D)) { s with toks := s.toks + 1 }) : wpAny (model prog w) A (getAttr? (.ref x) "__class__") Q E s := by
  have hf : findObj K D od "__class__" = some (.bind (.builtin "getset_descriptor.__get__") (.builtin "object.__class__")) := find_cls (by obtain ⟨cd, hc, _⟩ := any_some C.hd; rw [hc]; rfl) C.ha C.hn C.ht
  obtain ⟨hp, g, d, t, os⟩ := s
  have L0 := I.type (M := model prog w)
  have L1 := looks_findIn (M := model prog w) X C.hg
  have L2 := looks_findIn (M := model prog w) X C.hk
  have L3 := looks_find (M := model prog w) X I hf
  have sub : Looks (model prog w) hp (isInstance (.ref x) (.type "BaseException")) true := L0.andThen (looks_subIn X C.hs)
  have hx1 : (onTheHeap (Value.ref D) && Value.builtin "BaseException.__getattribute__" == Value.builtin "object.__getattribute__") = false := by
    rw [show (Value.builtin "BaseException.__getattribute__" == Value.builtin "object.__getattribute__") = false by decide +kernel, Bool.and_false]
  unfold getAttr? getAttrBy? getAttrBy
  refine wpAny_bind (wpAny_mkText (wpAny_bind (wpAny_attempt (wpAny_holding (wpAny_bind (L0.at (wpAny_bind (L1.at ?_))))))))
  show wpAny _ _ (if (onTheHeap (Value.ref D) && Value.builtin "BaseException.__getattribute__" == Value.builtin "object.__getattribute__") = true then _ else _) _ _ _
  rw [hx1, if_neg Bool.false_ne_true]
  unfold getAttrByItsOwn hookBefore
  refine wpAny_bind ?_
  rw [if_pos (show onTheHeap (Value.ref D) = true from rfl)]
  refine L2.at (wpAny_bind (wpAny_attempt (wpAny_holding ?_)))
  unfold callGetattribute
  rw [if_neg (show ¬ (false && onTheHeap (Value.builtin "BaseException.__getattribute__")) = true from Bool.false_ne_true)]
  unfold boundAndCalled
  rw [PySem.F.excAttr_ValueError.ga.bind (.ref x)]
  refine wpAny_bind (wpAny_pure ?_)
  show wpAny _ _ (call (.builtin "BaseException.__getattribute__") [.ref x, .str "__class__" t]) _ _ _
  refine wpAny_call (codeAny_call_builtin PySem.F.excAttr_ValueError.ga.plain PySem.F.entry_bexc_ga ?_)
  refine @check_slot (model prog w) _ _ ⟨hp, g, d, t + 1, os⟩ "BaseException.__getattribute__" "BaseException" "__getattribute__" (.ref x) [.str "__class__" t] [] _ (by decide +kernel) (by decide +kernel) sub (PySem.F.args_bexc_ga (.ref x) (.str "__class__" t)) ?_
  unfold Builtin.«object.__getattribute__»
  refine wpAny_bind (wpAny_of_eq (a := ((Value.ref x : Value), [Value.str "__class__" t])) (by first | rfl | (simp only [slotArgs]; rfl)) ?_)
  refine wpAny_bind (wpAny_pure (wpAny_bind (L0.at (wpAny_bind (L3.at ?_)))))
  show wpAny _ _ (holding [Value.builtin "object.__class__"] (call (.builtin "getset_descriptor.__get__") [.builtin "object.__class__", .ref x, .ref D]) >>= ret) _ _ _
  refine wpAny_bind (wpAny_holding (wpAny_call (class_get (s := ⟨hp, g, d, t + 1, os⟩) (ox := ox) (od := od) X I C.hm ?_)))
  refine wpAny_pure ?_
  show wpAny _ _ (handedOut (.ref D)) _ _ _
  rw [handedOut_of (v := .ref D) rfl]
  first
    | exact wpAny_pure (wpAny_pure h)
    | exact wpAny_pure h
    | exact wpAny_pure (wpAny_bind (wpAny_pure (wpAny_pure h)))
theorem kitx_own (C : L2.ExcC K D) : KitX K (.ref x) (.ref D) (fun h => InstAt h x ox D od) where
  ty := fun _ _ _ I => I.type
  it := fun _ _ X _ => by
    obtain ⟨cdD, hcD, _⟩ := any_some C.hd
    unfold clsIn at hcD
    split at hcD
    · rename_i c' d' cd' sl' ho
      intro A' Q' E' s' k q
      unfold isType loadHead
      exact wpAny_bind (wpAny_loadPart (k _ _ (X _ _ ho)) (wpAny_pure q))
    · cases hcD
  ne := fun h tp dd its n sl X htp => by
    obtain ⟨cdD, hcD, _⟩ := any_some C.hd
    refine Bool.eq_false_iff.mpr fun q => ?_
    have e : D = tp := Value.ref.inj (beq_iff_eq.mp q)
    subst e
    unfold clsIn at hcD
    split at hcD
    · rename_i c' d' cd' sl' ho
      have z := (X _ _ ho).symm.trans htp
      cases z
    · cases hcD
  ca := fun X I k => cls_asked C X I k
end
end Om
namespace Om
open PySem PySem.Spec PyProof.Rows L2
/-- isinstance(e, c), e the exception that the suite holds, of class cls, its dict at d -/
def rIsX (K : Frg) (cls : Value) (d : Option Addr) (a : Addr) : List V → Hp → VK → Prop := fun xs H Q => ∃ (D dd : Addr) (fs : List (Str × V)) (c : V) (cv : Value) (b : Bool), cls = .ref D ∧ d = some dd ∧ H dd = some (.xd fs) ∧ L2.ExcC K D ∧ xs = [.ref a, c] ∧ (∀ u, RelV c u → u = cv) ∧ PySem.W.kitOne K (.ref D) cv = some b ∧ Q (.bl b) H
theorem call_isX {X : L2.Cx} {a : Addr} {oe : Obj} {cls : Value} {d : Option Addr} {pn : List (Addr × Obj)} (hz : L2.Zc cls d oe) (hf : ∃ vs, oe.data = .fields vs) : L2.CallR (L2.Cx.suite X a ((a, oe) :: pn)) (.builtin "isinstance") (rIsX X.K cls d a) := by
  intro pins s σ H xs us Q I r h
  obtain ⟨D, dd, fs, c, cv, b, rfl, rfl, hdd, C, rfl, hcv, e, q⟩ := h
  cases r with
  | cons rx rr =>
    cases rr with
    | cons rt rr =>
      cases rr
      cases rx
      have ec := hcv _ rt
      subst ec
      obtain ⟨hget, _⟩ := I.pin (a, oe) (List.mem_append.mpr (.inl List.mem_cons_self))
      obtain ⟨vs, hv⟩ := hf
      have hx : L2.ObjOk X.prog X.w H s.heap dd (.xd fs) := I.hok dd _ hdd
      obtain ⟨mA, hns, _⟩ := hx
      obtain ⟨od, es, ep, ho, _⟩ := hns
      have J : PySem.W.InstAt s.heap a oe D (some od) := ⟨hget, hz.1, by unfold PySem.W.notCls; rw [hv] <;> rfl, by rw [hz.2]; exact ho⟩
      exact PySem.W.kia_one (kitx_own C) I.kIn J e (fun z => nomatch z) fun tk => ⟨.bl b, H, I.kept (t' := tk) fun _ _ z => z, rfl, q⟩
section
variable {w : World} {K : Frg} {mg : Str → Option Value}
open He
theorem Tx.ecT (T : Tx w K mg) : L2.ExcC K (ga K "InvalidText") := ⟨T.x_InvalidText_ga, T.x_InvalidText_gg, T.x_InvalidText_sub, T.x_InvalidText_hd, T.x_InvalidText_ha, T.x_hn, T.x_ht, T.x_InvalidText_hm⟩
theorem Tx.ecM (T : Tx w K mg) : L2.ExcC K (ga K "InvalidMap") := ⟨T.x_InvalidMap_ga, T.x_InvalidMap_gg, T.x_InvalidMap_sub, T.x_InvalidMap_hd, T.x_InvalidMap_ha, T.x_hn, T.x_ht, T.x_InvalidMap_hm⟩
theorem Tx.xfT (T : Tx w K mg) : L2.XfC K (ga K "InvalidText") := ⟨T.x_InvalidText_ga, T.x_InvalidText_gg, T.x_InvalidText_sub, T.x_InvalidText_hd⟩
theorem Tx.xfM (T : Tx w K mg) : L2.XfC K (ga K "InvalidMap") := ⟨T.x_InvalidMap_ga, T.x_InvalidMap_gg, T.x_InvalidMap_sub, T.x_InvalidMap_hd⟩
end
end Om
end PartRu7
section PartA14
set_option Elab.async false
set_option linter.all false
set_option maxRecDepth 100000
set_option maxHeartbeats 400000
namespace Om
open PySem PySem.Spec PyProof.Rows L2 He TL
section
variable {w : World} {K : Frg} {mg : Str → Option Value} {base : Heap}
theorem rec_ok {l : Option (List Value)} {g : Addr} (h : l.map (fun l => l.take 1) = some [.ref g]) : ∃ rest, l = some (.ref g :: rest) := by
  cases l with
  | none => cases h
  | some l =>
    cases l with
    | nil => cases h
    | cons a r =>
      have h : some [a] = some [Value.ref g] := h
      cases h
      exact ⟨r, rfl⟩
theorem Tx.pp_Island_rows (T : Tx w K mg) : PropOf K (ga K "Island") "rows" (ma K (ga K "Island") "rows") (pg K "Island" "rows") := ⟨T.pr_Island_rows_at, T.pr_Island_rows_get, T.pr_Island_rows_tak, rec_ok T.pr_Island_rows_rec⟩
theorem sc_Island_rows : FnScope ["self"] ["self"] (defScope s_Island_rows) := ⟨rfl, rfl, rfl, by decide +kernel, rfl, by decide +kernel, by decide +kernel⟩
theorem ok_Island_rows (T : Tx w K mg) : FnOk prg w K mg base CX0 1 (pg K "Island" "rows") (fdOf K (pg K "Island" "rows")) ["self"] (getSp (ga K "Island") "own_rows") := by
  refine T.f_Island_rows.ok sc_Island_rows (fun vs H Q E h => ?_) (fun cdv A outer s H vs Q E hr h => ?_)
  · obtain ⟨a, dx, fs, v, rfl, _⟩ := h
    rfl
  · obtain ⟨a, dx, fs, v, rfl, ha, hv, q⟩ := h
    refine ⟨_, PSs.nox (pss_one (ps_ret (pe_fld (pv 0) (by rfl)))), ?_⟩
    exact ⟨_, rfl, a, _, dx, fs, v, rfl, ha, T.cl_Island, T.na_Island_own_rows, hv, q⟩
theorem Tx.pp_Map_island (T : Tx w K mg) : PropOf K (ga K "Map") "island" (ma K (ga K "Map") "island") (pg K "Map" "island") := ⟨T.pr_Map_island_at, T.pr_Map_island_get, T.pr_Map_island_tak, rec_ok T.pr_Map_island_rec⟩
theorem sc_Map_island : FnScope ["self"] ["self"] (defScope s_Map_island) := ⟨rfl, rfl, rfl, by decide +kernel, rfl, by decide +kernel, by decide +kernel⟩
theorem ok_Map_island (T : Tx w K mg) : FnOk prg w K mg base CX0 1 (pg K "Map" "island") (fdOf K (pg K "Map" "island")) ["self"] (getSp (ga K "Map") "own_island") := by
  refine T.f_Map_island.ok sc_Map_island (fun vs H Q E h => ?_) (fun cdv A outer s H vs Q E hr h => ?_)
  · obtain ⟨a, dx, fs, v, rfl, _⟩ := h
    rfl
  · obtain ⟨a, dx, fs, v, rfl, ha, hv, q⟩ := h
    refine ⟨_, PSs.nox (pss_one (ps_ret (pe_fld (pv 0) (by rfl)))), ?_⟩
    exact ⟨_, rfl, a, _, dx, fs, v, rfl, ha, T.cl_Map, T.na_Map_own_island, hv, q⟩
theorem Tx.pp_Map_signs (T : Tx w K mg) : PropOf K (ga K "Map") "signs" (ma K (ga K "Map") "signs") (pg K "Map" "signs") := ⟨T.pr_Map_signs_at, T.pr_Map_signs_get, T.pr_Map_signs_tak, rec_ok T.pr_Map_signs_rec⟩
theorem sc_Map_signs : FnScope ["self"] ["self"] (defScope s_Map_signs) := ⟨rfl, rfl, rfl, by decide +kernel, rfl, by decide +kernel, by decide +kernel⟩
theorem ok_Map_signs (T : Tx w K mg) : FnOk prg w K mg base CX0 1 (pg K "Map" "signs") (fdOf K (pg K "Map" "signs")) ["self"] (getSp (ga K "Map") "own_signs") := by
  refine T.f_Map_signs.ok sc_Map_signs (fun vs H Q E h => ?_) (fun cdv A outer s H vs Q E hr h => ?_)
  · obtain ⟨a, dx, fs, v, rfl, _⟩ := h
    rfl
  · obtain ⟨a, dx, fs, v, rfl, ha, hv, q⟩ := h
    refine ⟨_, PSs.nox (pss_one (ps_ret (pe_fld (pv 0) (by rfl)))), ?_⟩
    exact ⟨_, rfl, a, _, dx, fs, v, rfl, ha, T.cl_Map, T.na_Map_own_signs, hv, q⟩
theorem Tx.pp_Map_facings (T : Tx w K mg) : PropOf K (ga K "Map") "facings" (ma K (ga K "Map") "facings") (pg K "Map" "facings") := ⟨T.pr_Map_facings_at, T.pr_Map_facings_get, T.pr_Map_facings_tak, rec_ok T.pr_Map_facings_rec⟩
theorem sc_Map_facings : FnScope ["self"] ["self"] (defScope s_Map_facings) := ⟨rfl, rfl, rfl, by decide +kernel, rfl, by decide +kernel, by decide +kernel⟩
theorem ok_Map_facings (T : Tx w K mg) : FnOk prg w K mg base CX0 1 (pg K "Map" "facings") (fdOf K (pg K "Map" "facings")) ["self"] (getSp (ga K "Map") "own_facings") := by
  refine T.f_Map_facings.ok sc_Map_facings (fun vs H Q E h => ?_) (fun cdv A outer s H vs Q E hr h => ?_)
  · obtain ⟨a, dx, fs, v, rfl, _⟩ := h
    rfl
  · obtain ⟨a, dx, fs, v, rfl, ha, hv, q⟩ := h
    refine ⟨_, PSs.nox (pss_one (ps_ret (pe_fld (pv 0) (by rfl)))), ?_⟩
    exact ⟨_, rfl, a, _, dx, fs, v, rfl, ha, T.cl_Map, T.na_Map_own_facings, hv, q⟩
theorem Tx.pp_Map_instructions (T : Tx w K mg) : PropOf K (ga K "Map") "instructions" (ma K (ga K "Map") "instructions") (pg K "Map" "instructions") := ⟨T.pr_Map_instructions_at, T.pr_Map_instructions_get, T.pr_Map_instructions_tak, rec_ok T.pr_Map_instructions_rec⟩
theorem sc_Map_instructions : FnScope ["self"] ["self"] (defScope s_Map_instructions) := ⟨rfl, rfl, rfl, by decide +kernel, rfl, by decide +kernel, by decide +kernel⟩
theorem ok_Map_instructions (T : Tx w K mg) : FnOk prg w K mg base CX0 1 (pg K "Map" "instructions") (fdOf K (pg K "Map" "instructions")) ["self"] (getSp (ga K "Map") "own_instructions") := by
  refine T.f_Map_instructions.ok sc_Map_instructions (fun vs H Q E h => ?_) (fun cdv A outer s H vs Q E hr h => ?_)
  · obtain ⟨a, dx, fs, v, rfl, _⟩ := h
    rfl
  · obtain ⟨a, dx, fs, v, rfl, ha, hv, q⟩ := h
    refine ⟨_, PSs.nox (pss_one (ps_ret (pe_fld (pv 0) (by rfl)))), ?_⟩
    exact ⟨_, rfl, a, _, dx, fs, v, rfl, ha, T.cl_Map, T.na_Map_own_instructions, hv, q⟩
end
end Om
end PartA14
section PartA15
set_option Elab.async false
set_option linter.all false
set_option maxRecDepth 100000
set_option maxHeartbeats 400000
namespace Om
open PySem PySem.Spec PyProof.Rows L2 He TL
/-- what _law_seen reads: the body of the try -/
def t_seenB (K : Frg) (W : WX) : TS := tSeq (tAsg (tCallS (sp_parse_map K) (WE W) (tCons (tVar 0) tNil)) (gName 1))
  (tSeq (tIfS (tNot (tB (tCB (rIsi K) (tCons (tVar 1) (tCons (tC (.ref (ga K "Map"))) tNil))))) (tRet (tC .non)) tNext)
  (tRet (tTup (tCons (tC (.str "chart")) (tCons (tProp (ga K "Island") (getSp (ga K "Island") "own_rows") [] (fun _ _ _ => False) (tProp (ga K "Map") (getSp (ga K "Map") "own_island") [] (fun _ _ _ => False) (tVar 1)))
    (tCons (tProp (ga K "Map") (getSp (ga K "Map") "own_signs") [] (fun _ _ _ => False) (tVar 1)) (tCons (tProp (ga K "Map") (getSp (ga K "Map") "own_facings") [] (fun _ _ _ => False) (tVar 1))
    (tCons (tProp (ga K "Map") (getSp (ga K "Map") "own_instructions") [] (fun _ _ _ => False) (tVar 1)) tNil))))))))
/-- .. its except suite -/
def t_seenS (K : Frg) (a : Addr) (cls : Value) (d : Option Addr) : TS := tSeq (tIfS (tB (tCB (rIsX K cls d a) (tCons (tVar 2) (tCons (tC (.ref (ga K "InvalidText"))) tNil))))
    (tRet (tTup (tCons (tC (.str "InvalidText")) (tCons (tXf a cls d (ga K "InvalidText") "row" (tVar 2)) (tCons (tXf a cls d (ga K "InvalidText") "word" (tVar 2)) tNil))))) tNext)
  (tRet (tIf (tB (tCB (rIsX K cls d a) (tCons (tVar 2) (tCons (tC (.ref (ga K "InvalidMap"))) tNil)))) (tTup (tCons (tC (.str "InvalidMap")) (tCons (tXf a cls d (ga K "InvalidMap") "index" (tVar 2)) tNil))) (tC (.str "another"))))
section
variable {w : World} {K : Frg} {mg : Str → Option Value} {base : Heap}
def sp__law_seen (K : Frg) : Sp := fun vs H Q _ => ∃ z : Str, vs = [.str z] ∧ z.cps.size ≤ 100000 ∧ (∀ l ∈ Txt.split z "\n", l.cps.size ≤ 100000) ∧ OkR (rowsW z) ∧ ∀ v H', Ex H H' → Dp K H' v (seenD (rowsW z)) → Q v H'
theorem sc__law_seen : FnScope ["_law_text", "_law_found", "e"] ["_law_text"] (defScope s__law_seen) := ⟨rfl, rfl, rfl, by decide +kernel, rfl, by decide +kernel, by decide +kernel⟩
theorem ok__law_seen (T : Tx w K mg) : FnOk prg w K mg base CX0 10 (ga K "_law_seen") (fdOf K (ga K "_law_seen")) ["_law_text"] (sp__law_seen K) := by
  refine T.f__law_seen.ok sc__law_seen (fun vs H Q E h => ?_) (fun cdv A outer s H vs Q E hr h => ?_)
  · obtain ⟨z, rfl, _⟩ := h
    rfl
  · obtain ⟨z, rfl, hz, hlz, ok, q⟩ := h
    have nd := sc__law_seen.nd
    refine ⟨_, PSs.nox (pss_one (ps_try_as (i := 2) (tb := t_seenB K) (ts := t_seenS K) (Wout := fun _ _ _ _ => False) rfl rfl nd rfl rfl ⟨rfl, by decide, .inl T.g_MapError⟩ takes0 (fun W pn xe tk _ => ?b) (fun a oe cls d pn hz hf => ?s))), ?_⟩
    case b =>
      refine pss_cons (ps_set (i := 1) nd rfl (Or.inl rfl) (by exact (pe_callS (ok_parse_map T) (hr.mono (by decide)) rfl T.g_parse_map T.f_parse_map.kp T.p_parse_map (fun σ => passAt tk σ) (by exact (pa_cons (pv 0) pa_nil))))) (pss_cons (ps_if (pt_not (pt_val (by exact (pe_callB call_isi (by rfl) T.b_isinstance boot_isinstance (pa_cons (pv 1) (pa_cons (pe_glob (v := .ref _) (by rfl) T.g_Map rfl) pa_nil)))))) (pss_one (ps_ret pe_non)) pss_nil) (pss_one (ps_ret (pe_tup (pa_cons pe_str (pa_cons ?_ (pa_cons ?_ (pa_cons ?_ (pa_cons ?_ pa_nil)))))))))
      · exact pe_prop (by exact pe_prop (pv 1) T.cl_Map T.pp_Map_island (ok_Map_island T) (hr.mono (by decide)) T.p_Map_island .nil pass0 (by rfl)) T.cl_Island T.pp_Island_rows (ok_Island_rows T) (hr.mono (by decide)) T.p_Island_rows .nil pass0 (by rfl)
      · exact pe_prop (pv 1) T.cl_Map T.pp_Map_signs (ok_Map_signs T) (hr.mono (by decide)) T.p_Map_signs .nil pass0 (by rfl)
      · exact pe_prop (pv 1) T.cl_Map T.pp_Map_facings (ok_Map_facings T) (hr.mono (by decide)) T.p_Map_facings .nil pass0 (by rfl)
      · exact pe_prop (pv 1) T.cl_Map T.pp_Map_instructions (ok_Map_instructions T) (hr.mono (by decide)) T.p_Map_instructions .nil pass0 (by rfl)
    case s =>
      refine pss_cons (ps_if (pt_val (by exact (pe_callB (call_isX hz hf) (by rfl) T.b_isinstance boot_isinstance (pa_cons (pv 2) (pa_cons (pe_glob (v := .ref _) (by rfl) T.g_InvalidText rfl) pa_nil))))) (pss_one (ps_ret (pe_tup (pa_cons pe_str (pa_cons ?_ (pa_cons ?_ pa_nil)))))) pss_nil) (pss_one (ps_ret (pe_ifExp (pt_val (by exact (pe_callB (call_isX hz hf) (by rfl) T.b_isinstance boot_isinstance (pa_cons (pv 2) (pa_cons (pe_glob (v := .ref _) (by rfl) T.g_InvalidMap rfl) pa_nil))))) (pe_tup (pa_cons pe_str (pa_cons ?_ pa_nil))) pe_str)))
      · exact pe_xf T.xfT T.x_InvalidText_no_row hz hf (pv 2)
      · exact pe_xf T.xfT T.x_InvalidText_no_word hz hf (pv 2)
      · exact pe_xf T.xfM T.x_InvalidMap_no_index hz hf (pv 2)
    refine ⟨_, rfl, z, rfl, hz, hlz, ok, fun c hc hw m H' x' hm => ?_, fun r k hr d H' x' hd => ?_, fun c i hc hi d H' x' hd => ?_⟩
    · obtain ⟨dx, ia, idx, rb, fb, tb, xs, h1, h2, h3, h4, h5, h6⟩ := hm
      refine ⟨_, rfl, _, _, _, _, true, rfl, .own _, .base (.ins h1 T.cl_Map T.mp_ha T.x_hn T.x_ht T.mp_hm), T.mp_me, true, rfl, ?_⟩
      refine ⟨_, rfl, _, _, _, rfl, h1, _, _, _, _, rfl, h1, rfl, _, _, _, rfl, h2, _, _, _, _, rfl, h2, rfl, ?_⟩
      refine ⟨_, rfl, _, _, _, rfl, h1, _, _, _, _, rfl, h1, rfl, ?_⟩
      refine ⟨_, rfl, _, _, _, rfl, h1, _, _, _, _, rfl, h1, rfl, ?_⟩
      refine ⟨_, rfl, _, _, _, rfl, h1, _, _, _, _, rfl, h1, rfl, Evl.sz_of (by simp), fun p hp => ?_⟩
      have e := ex_new (o := .tup [.str "chart", .ref rb, .str c.signs, .ref fb, .ref tb]) hp
      refine q _ _ (x'.trans e) ?_
      unfold seenD
      rw [hc]
      simp only
      rw [hw]
      exact .tup (.of upd_same) (.cons (.str _) (.cons (.tup (Evl.ex_t e h3) (dps_str _)) (.cons (.str _) (.cons (.tup (Evl.ex_t e h4) (dps_int _)) (.cons (.tup (Evl.ex_t e h5) (dps_ex e h6)) .nil)))))
    · refine ⟨true, T.xm_InvalidText, fun _ a ha => ?_, fun e => by cases e⟩
      refine ⟨_, rfl, _, _, _, _, _, true, rfl, rfl, hd, T.ecT, rfl, fun _ h => h, T.x_InvalidText_kt, true, rfl, iteT ?_⟩
      refine ⟨_, rfl, rfl, rfl, _, _, _, rfl, hd, rfl, _, rfl, rfl, rfl, _, _, _, rfl, hd, rfl, Evl.sz_of (by simp), fun p hp => ?_⟩
      refine q _ _ (x'.trans (ex_new hp)) ?_
      unfold seenD
      rw [hr]
      exact .tup (.of upd_same) (.cons (.str _) (.cons (.int _) (.cons (.int _) .nil)))
    · refine ⟨true, T.xm_InvalidMap, fun _ a ha => ?_, fun e => by cases e⟩
      refine ⟨_, rfl, _, _, _, _, _, false, rfl, rfl, hd, T.ecM, rfl, fun _ h => h, T.x_InvalidMap_kt, false, rfl, ?_⟩
      refine ⟨_, rfl, _, _, _, _, _, true, rfl, rfl, hd, T.ecM, rfl, fun _ h => h, T.x_ktmm, true, rfl, iteT ?_⟩
      refine ⟨_, rfl, rfl, rfl, _, _, _, rfl, hd, rfl, Evl.sz_of (by simp), fun p hp => ?_⟩
      refine q _ _ (x'.trans (ex_new hp)) ?_
      unfold seenD
      rw [hc]
      simp only
      rw [hi]
      exact .tup (.of upd_same) (.cons (.str _) (.cons (.int _) .nil))
end
end Om
end PartA15
section PartB6
set_option Elab.async false
set_option linter.all false
set_option maxRecDepth 100000
set_option maxHeartbeats 400000
namespace Om
open PySem PySem.Spec PyProof.Rows L2 He TL
/-- the rows of a list of lines, each in words -/
def rowsT (ts : List Str) : List (List Str) := ts.map fun l => Txt.split l " "
def rdD (r : Except (Nat × Nat) (Chart × Nat)) : PyData := match r with
  | .error (r, k) => .tuple [.int r, .int k]
  | .ok (c, k) => .list [.tuple (chartD c), .int k]
theorem ty_sl {K : Frg} {H : Hp} {a : Addr} {xs : List V} (h : SqL K H a xs) : TyX K H (.ref a) (.type "list") := by
  rcases h with (h | ⟨o, h⟩) | ⟨o, its, n, h1, h2, _⟩
  · exact .base (.lst h)
  · exact .base (.frz h)
  · exact .kList h1 h2
section
variable {w : World} {K : Frg} {mg : Str → Option Value} {base : Heap}
/-- _law_read -/
def sp__law_read (K : Frg) : Sp := fun vs H Q _ => ∃ (la : Addr) (ts : List Str), vs = [.ref la] ∧ H la = some (.lst (ts.map V.str)) ∧ ts ≠ [] ∧ (∀ l ∈ ts, l.cps.size ≤ 100000) ∧ OkR (rowsT ts) ∧
  ∀ v H', Ex H H' → Dp K H' v (rdD (readS (rowsT ts))) → Q v H'
theorem sc__law_read : FnScope ["_law_lines", "_law_rows_here", "_law_island", "_law_begin_here", "_law_found", "_law_k", "_law_one_here", "_law_line_here"] ["_law_lines"] (defScope s__law_read) := ⟨rfl, rfl, rfl, by decide +kernel, rfl, by decide +kernel, by decide +kernel⟩
theorem ok__law_read (T : Tx w K mg) : FnOk prg w K mg base CX0 6 (ga K "_law_read") (fdOf K (ga K "_law_read")) ["_law_lines"] (sp__law_read K) := by
  refine T.f__law_read.ok sc__law_read (fun vs H Q E h => ?_) (fun cdv A outer s H vs Q E hr h => ?_)
  · obtain ⟨la, ts, rfl, _⟩ := h
    rfl
  · obtain ⟨la, ts, rfl, hla, hne, hsz, ok, q⟩ := h
    refine ⟨_, PSs.nox (pss_cons (ps_setLc (i := 1) (own := [("_law_line_here", 7)]) (g := gName 7) rfl sc__law_read.nd rfl rfl (sw_true rfl rfl rfl (by decide +kernel)) (pi_list (pv 0)) (blkOk_by (own := [("_law_line_here", 7)]) (N := ["_law_lines", "_law_rows_here", "_law_island", "_law_begin_here", "_law_found", "_law_k", "_law_one_here", "_law_line_here"]) (sc := defScope s__law_read) (by decide +kernel)) (fun _ _ _ _ _ => pg_name (i := 7) sc__law_read.nd rfl (Or.inl rfl)) (fun _ _ _ _ _ => pts_nil) (fun _ _ _ _ _ => (pe_bmK (K := K) rfl PySem.F.plainAttrs_str PySem.F.slot_str_split PySem.F.type_str_split mt_split (pv 7) (pa_cons pe_str pa_nil))))
      (pss_cons (ps_set (i := 2) sc__law_read.nd rfl (Or.inl rfl) (pe_call (ok__law_island_at T) (hr.mono (by decide)) (by rfl) T.g__law_island_at T.f__law_island_at.kp T.p__law_island_at .nil pass0 (pa_cons (pv 1) pa_nil)))
      (pss_cons (ps_if (pt_val (pe_callB call_isi (by rfl) T.b_isinstance boot_isinstance (pa_cons (pv 2) (pa_cons (pe_bltn (v := .ty "tuple") (by rfl) T.b_tuple boot_tuple rfl) pa_nil)))) (pss_one (ps_ret (pv 2))) pss_nil)
      (pss_cons (ps_set (i := 3) sc__law_read.nd rfl (Or.inl rfl) (pe_call (ok__law_begin_at T) (hr.mono (by decide)) (by rfl) T.g__law_begin_at T.f__law_begin_at.kp T.p__law_begin_at .nil pass0 (pa_cons (pe_ix ix_list (pv 1) (pe_op op_add (pe_callB call_len_seq (by rfl) T.b_len PySem.boot_len (pa_cons (pv 2) pa_nil)) pe_int) (fun _ _ => rfl)) pa_nil)))
      (pss_cons (ps_if (pt_val (pe_callB call_isi (by rfl) T.b_isinstance boot_isinstance (pa_cons (pv 3) (pa_cons (pe_bltn (v := .ty "int") (by rfl) T.b_int boot_int rfl) pa_nil)))) (pss_one (ps_ret (pe_tup (pa_cons (pe_op op_add (pe_callB call_len_seq (by rfl) T.b_len PySem.boot_len (pa_cons (pv 2) pa_nil)) pe_int) (pa_cons (pv 3) pa_nil))))) pss_nil)
      (pss_cons (ps_set (i := 4) sc__law_read.nd rfl (Or.inl rfl) (pe_tup pa_nil))
      (pss_cons (ps_for PassesOwn.never rfl (pi_range2 (by rfl) T.b_range (pa_cons (pe_op op_add (pe_callB call_len_seq (by rfl) T.b_len PySem.boot_len (pa_cons (pv 2) pa_nil)) pe_int) (pa_cons (pe_callB call_len_seq (by rfl) T.b_len PySem.boot_len (pa_cons (pv 1) pa_nil)) pa_nil))) (pg_name (i := 5) sc__law_read.nd rfl (Or.inl rfl)) (pss_cons (ps_if (pt_cmpR op_eq (pe_ix ix_list (pe_ix ix_list (pv 1) (pv 5) (fun _ _ => rfl)) pe_int (fun _ _ => rfl)) pe_str (nomark _)) (pss_one (ps_ret (pe_lst (pa_cons (pe_op op_catA (pe_op op_catA (pe_tup (pa_cons (pe_callTy call_tuple_of (by rfl) T.b_tuple boot_tuple (pa_cons (pv 2) pa_nil)) pa_nil)) (pv 3)) (pe_tup (pa_cons (pv 4) pa_nil))) (pa_cons (pv 5) pa_nil))))) pss_nil)
      (pss_cons (ps_set (i := 6) sc__law_read.nd rfl (Or.inl rfl) (pe_call (ok__law_row_at T) (hr.mono (by decide)) (by rfl) T.g__law_row_at T.f__law_row_at.kp T.p__law_row_at .nil pass0 (pa_cons (pe_ix ix_list (pv 1) (pv 5) (fun _ _ => rfl)) pa_nil)))
      (pss_cons (ps_if (pt_val (pe_callB call_isi (by rfl) T.b_isinstance boot_isinstance (pa_cons (pv 6) (pa_cons (pe_bltn (v := .ty "int") (by rfl) T.b_int boot_int rfl) pa_nil)))) (pss_one (ps_ret (pe_tup (pa_cons (pv 5) (pa_cons (pv 6) pa_nil))))) pss_nil)
      (pss_one (ps_set (i := 4) sc__law_read.nd rfl (Or.inl rfl) (pe_op op_catA (pv 4) (pe_tup (pa_cons (pv 6) pa_nil)))))))))
      (pss_one (ps_ret (pe_lst (pa_cons (pe_op op_catA (pe_op op_catA (pe_tup (pa_cons (pe_callTy call_tuple_of (by rfl) T.b_tuple boot_tuple (pa_cons (pv 2) pa_nil)) pa_nil)) (pv 3)) (pe_tup (pa_cons (pv 4) pa_nil))) (pa_cons (pe_callB call_len_seq (by rfl) T.b_len PySem.boot_len (pa_cons (pv 1) pa_nil)) pa_nil)))))))))))), ?_⟩
    have szS : ∀ l : Str, l.cps.size ≤ 100000 → l.length + 2 ≤ sizeLine := fun l h => Nat.le_trans (Nat.add_le_add_right (show l.length ≤ 100000 from h) 2) (by decide)
    have hne2 : rowsT ts ≠ [] := fun e => hne (by simpa [rowsT] using e)
    have hlen : (rowsT ts).length = ts.length := by simp [rowsT]
    have okl := ok.1
    refine ⟨_, rfl, la, rfl, ⟨_, .of hla⟩, fun D hD => ?_⟩
    refine lc_it (walk_list (K := K) (a := la) (xs := ts.map V.str)) (fun i H' => Ex H H' ∧ ∃ las : List Addr, las.length = i ∧ H' D = some (.lst (las.map V.ref)) ∧ ∀ (j : Nat) (ws : List Str), j < i → (rowsT ts)[j]? = some ws → ∃ a, las[j]? = some a ∧ H' a = some (.lst (ws.map V.str))) ⟨ex_new hD, [], rfl, upd_same, fun j ws h => by omega⟩ (fun i H' _ q => .of (q.1 _ _ hla)) ?_ ?_
    · rintro i x Hi H2 hi ⟨xi, las, hl, hDi, hrows⟩ ⟨rfl, hx⟩
      rw [List.getElem?_map, Option.map_eq_some_iff] at hx
      obtain ⟨l, hl1, rfl⟩ := hx
      have hls : l.cps.size ≤ 100000 := hsz l (List.mem_of_getElem? hl1)
      refine ⟨rfl, tY ?_⟩
      refine ⟨_, rfl, rfl, l, _, rfl, rfl, by decide +kernel, szS l hls, fun wa hwa => ?_⟩
      have hnw : Txt.split l " " ≠ [] := split_ne (by decide +kernel) (by decide +kernel) l
      have x3 : Ex H2 (upd H2 wa (.lst ((Txt.split l " ").map V.str))) := ex_new hwa
      have hw3 : upd H2 wa (.lst ((Txt.split l " ").map V.str)) wa = some (.lst ((Txt.split l " ").map V.str)) := upd_same
      have hwD : wa ≠ D := fun e => by rw [e, hDi] at hwa; cases hwa
      generalize upd H2 wa (.lst ((Txt.split l " ").map V.str)) = H3 at x3 hw3 ⊢
      have hD3 := x3 _ _ hDi
      refine ⟨las.map V.ref, hD3, Evl.sz_lt (by rw [List.length_map]; rw [List.length_map] at hi; omega), Evl.Ex.mut (xi.trans x3) hD, las ++ [wa], by rw [List.length_append, hl]; rfl, by rw [List.map_append]; exact upd_same, fun j ws hj hws => ?_⟩
      have hwn : ws ≠ [] := (ok.2 ws (List.mem_of_getElem? hws)).1
      by_cases hji : j < i
      · obtain ⟨a, h1, h2⟩ := hrows j ws hji hws
        refine ⟨a, by rw [List.getElem?_append_left (by omega)]; exact h1, ?_⟩
        have h3 := x3 _ _ h2
        have haD : a ≠ D := fun e => by
          rw [e, hD3] at h3
          injection h3 with h3
          injection h3 with h3
          cases ws with
          | nil => exact hwn rfl
          | cons z zs =>
            cases las with
            | nil => cases h3
            | cons y ys => cases h3
        rw [upd_ne haD]
        exact h3
      · obtain rfl : j = i := by omega
        refine ⟨wa, by rw [List.getElem?_append_right (by omega)]; rw [hl, Nat.sub_self]; rfl, ?_⟩
        have e2 : (rowsT ts)[j]? = some (Txt.split l " ") := by
          unfold rowsT
          rw [List.getElem?_map, hl1]
          rfl
        rw [e2] at hws
        cases hws
        rw [upd_ne hwD]
        exact hw3
    · rintro H1 ⟨x1, las, hl, hD1, hrows⟩
      rw [List.length_map] at hl hrows
      have rl : RwL H1 D (rowsT ts) := ⟨las, hD1, by rw [hl, hlen], fun j ws e => hrows j ws (by have := (List.getElem?_eq_some_iff.mp e).1; omega) e⟩
      clear hrows
      have hn : ∀ ws ∈ rowsT ts, ws ≠ [] := fun ws hm => (ok.2 ws hm).1
      generalize hR : rowsT ts = rws at q hne2 hlen okl ok rl hn
      have row : ∀ {H' : Hp} {j : Nat} {ws : List Str}, Ex H1 H' → rws[j]? = some ws → ∃ las a, H' D = some (.lst (List.map V.ref las)) ∧ las.length = rws.length ∧ atI (List.map V.ref las) (j : Int) = some (.ref a) ∧ H' a = some (.lst (ws.map V.str)) := fun {H' j ws} x e => by
        obtain ⟨las, h1, h2, h3⟩ := rl.ex x
        obtain ⟨a, e1, e2⟩ := h3 j ws e
        exact ⟨las, a, h1, h2, atI_nat (by rw [List.getElem?_map, e1]; rfl), e2⟩
      refine ⟨_, rfl, D, rws, rfl, rl, ok, hne2, fun v H2 x2 dp => ?_⟩
      cases hi : islandAt rws with
      | error e =>
        obtain ⟨r0, k0⟩ := e
        rw [hi] at dp
        cases dp with
        | tup hs ha =>
          refine ⟨_, rfl, _, _, _, _, _, rfl, .ty "tuple", ty_sq hs, kit_ty (by decide +kernel), true, rfl, iteT ?_⟩
          refine ⟨_, rfl, q _ _ (x1.trans x2) ?_⟩
          unfold readS
          rw [hi]
          exact .tup hs ha
      | ok rows =>
        rw [hi] at dp
        obtain ⟨⟨ir1, ir2⟩, wr0, hfr⟩ := island_ok hn hi
        have hrl : rows.length + 2 ≤ rws.length := by
          have := (List.getElem?_eq_some_iff.mp hfr).1
          omega
        cases dp with
        | lst hs ha =>
          rename_i ia xs
          have hxs : xs.length = rows.length := by rw [dps_len ha, List.length_map]
          refine ⟨_, rfl, _, _, _, _, _, rfl, .ty "tuple", ty_sl hs, kit_ty (by decide +kernel), false, rfl, iteF ?_⟩
          obtain ⟨las2, b2, y1, y2, y3, y4⟩ := row x2 hfr
          have ek : (xs.length : Int) + 1 = ((rows.length + 1 : Nat) : Int) := by rw [hxs]; rfl
          obtain ⟨bn, bl, bok⟩ := ok.2 _ (List.mem_of_getElem? hfr)
          refine ⟨_, rfl, _, rfl, _, _, rfl, .inl hs, ?_⟩
          refine ⟨_, _, rfl, rfl, D, _, _, _, rfl, rfl, .of y1, by rw [ek]; exact y3, b2, _, rfl, y4, bok, bl, fun v H3 x3 dp3 => ?_⟩
          have x13 := x2.trans x3
          have egd : rws.getD (rows.length + 1) [] = ("from" : Str) :: wr0 := by
            rw [List.getD_eq_getElem?_getD, hfr]
            rfl
          cases hb : beginAt (("from" : Str) :: wr0) with
          | error e =>
            rw [hb] at dp3
            cases dp3
            refine ⟨_, rfl, _, _, _, _, _, rfl, .ty "int", .base (.int _), kit_ty (by decide +kernel), true, rfl, iteT ?_⟩
            refine ⟨_, rfl, _, _, rfl, .inl (Evl.ex_l x3 hs), _, _, rfl, rfl, _, rfl, Evl.sz_of (by simp), fun p4 hp4 => q _ _ ((x1.trans x13).trans (ex_new hp4)) ?_⟩
            unfold readS
            rw [hi]
            simp only [egd, hb]
            rw [ek]
            exact .tup (.of upd_same) (.cons (.int _) (.cons (.int _) .nil))
          | ok sf =>
            obtain ⟨sg, fc⟩ := sf
            rw [hb] at dp3
            cases dp3 with
            | tup hs3 ha3 =>
              rename_i pb xs3
              refine ⟨_, rfl, _, _, _, _, _, rfl, .ty "int", ty_sq hs3, kit_ty (by decide +kernel), false, rfl, iteF ?_⟩
              have eR : readS rws = match insAcc [] (rws.drop (rows.length + 2)) (rows.length + 2) with | .error e => .error e | .ok (l, k) => .ok (⟨rows, sg, fc, l⟩, k) := by
                unfold readS insAcc
                rw [hi]
                simp only [egd, hb]
                cases insS (rws.drop (rows.length + 2)) (rows.length + 2) with
                | error e => rfl
                | ok lj => simp
              refine ⟨Evl.sz_of (by simp), fun p4 hp4 => ?_⟩
              have x4 := x13.trans (ex_new (o := .tup []) hp4)
              have x34 := x3.trans (ex_new (o := .tup []) hp4)
              have hs4 : SqT K (upd H3 p4 (.tup [])) p4 [] := .of upd_same
              have hs34 := Evl.ex_t (ex_new (o := .tup []) hp4) hs3
              have ha34 := dps_ex (ex_new (o := .tup []) hp4) ha3
              generalize upd H3 p4 (.tup []) = H4 at x4 x34 hs4 hs34 ha34 ⊢
              obtain ⟨las5, z1, z2, _⟩ := rl.ex x4
              refine ⟨_, rfl, _, _, rfl, .inl (Evl.ex_l x34 hs), _, _, rfl, rfl, _, rfl, D, _, rfl, .inl (.of z1), _, _, rfl, ⟨by omega, by rw [hxs]; omega, by omega, by rw [List.length_map, z2]; omega⟩, ?_⟩
              have hn2 : (((las5.map V.ref).length : Int) - ((xs.length : Int) + 2)).toNat = rws.length - (rows.length + 2) := by
                rw [List.length_map, z2, hxs]
                omega
              rw [hn2]
              have ret : ∀ {H' : Hp} {p q1 : Addr} {acc : List (List PyData)} {ys : List V} {k : Nat}, Ex H1 H' → SqT K H' p ys → DpAll K H' ys (acc.map PyData.tuple) → insAcc [] (rws.drop (rows.length + 2)) (rows.length + 2) = .ok (acc, k) → acc.length ≤ 1000 →
                  ∀ v, Dp K H' v (.list [.tuple (chartD ⟨rows, sg, fc, acc⟩), .int k]) → Q v H' := fun {H' p q1 acc ys k} x h1 h2 e hz v dp => q _ _ (x1.trans x) (by rw [eR, e]; exact dp)
              refine for_range (fun i σ H' => ∃ (acc : List (List PyData)) (p : Addr) (ys : List V) (o5 o6 : Option V), σ = [some (.ref la), some (.ref D), some (.ref ia), some (.ref pb), some (.ref p), o5, o6, none] ∧ acc.length = i ∧ SqT K H' p ys ∧ DpAll K H' ys (acc.map PyData.tuple) ∧
                insAcc acc (rws.drop (rows.length + 2 + i)) (rows.length + 2 + i) = insAcc [] (rws.drop (rows.length + 2)) (rows.length + 2) ∧ Ex H4 H') ⟨[], p4, [], none, none, rfl, rfl, hs4, .nil, rfl, Evl.Ex.refl _⟩ ?_ ?_
              · rintro i σ H5 hi5 ⟨acc, p, ys, o5, o6, rfl, hacc, hpa, hda, hins, x5⟩
                have hj : rows.length + 2 + i < rws.length := by omega
                obtain ⟨ws, hws⟩ : ∃ ws, rws[rows.length + 2 + i]? = some ws := ⟨_, List.getElem?_eq_getElem hj⟩
                obtain ⟨wn, wl, wok⟩ := ok.2 ws (List.mem_of_getElem? hws)
                obtain ⟨wd, wr, rfl⟩ : ∃ wd wr, ws = wd :: wr := by
                  cases ws with
                  | nil => exact absurd rfl wn
                  | cons a r => exact ⟨a, r, rfl⟩
                have hdr : rws.drop (rows.length + 2 + i) = (wd :: wr) :: rws.drop (rows.length + 2 + (i + 1)) := by
                  rw [List.drop_eq_getElem_cons hj, Option.some.inj ((List.getElem?_eq_getElem hj).symm.trans hws)]
                  rfl
                rw [hdr] at hins
                have ek2 : (xs.length : Int) + 2 + (i : Int) = ((rows.length + 2 + i : Nat) : Int) := by rw [hxs]; omega
                rw [ek2]
                have x45 := x4.trans x5
                obtain ⟨las6, b6, k1, k2, k3, k4⟩ := row x45 hws
                refine ⟨_, rfl, _, rfl, D, _, _, _, rfl, rfl, .of k1, k3, b6, _, 0, .str wd, rfl, rfl, .of k4, atI_nat (j := 0) rfl, rfl, _, rfl, ?_⟩
                refine ifB (fun e => ?_) (fun e => ?_)
                · have ew : wd = "search" := by
                    rw [vstr_eq] at e
                    exact ext_tl (of_decide_eq_true e)
                  rw [insAcc_search acc _ _ (show (wd :: wr).headD Str.empty = "search" from ew)] at hins
                  have x345 := x34.trans x5
                  refine ⟨_, rfl, ia, _, rfl, .inl ⟨Evl.ex_l x345 hs, fun l hl => ?_⟩⟩
                  refine ⟨Evl.sz_of (by simp), fun p1 hp1 => ⟨_, rfl, ?_⟩⟩
                  have xl := (ex_new (o := .tup xs) hl).trans (ex_new (o := .tup [V.ref l]) hp1)
                  refine catA (K := K) (.of upd_same) (Evl.ex_t (x5.trans xl) hs34) (by rw [dps_len ha3]; simp) fun p2 G2 y2 s2 => ?_
                  refine ⟨_, rfl, Evl.sz_of (by simp), fun p3 hp3 => ?_⟩
                  refine catA (K := K) (Evl.ex_t (ex_new hp3) s2) (.of upd_same) (by rw [List.length_append, dps_len ha3]; simp) fun p5 G3 y3 s3 => ?_
                  have xG := (xl.trans y2).trans ((ex_new (o := .tup [V.ref p]) hp3).trans y3)
                  have hl3 : SqT K G3 l xs := Evl.ex_t ((ex_new (o := .tup [V.ref l]) hp1).trans (y2.trans ((ex_new (o := .tup [V.ref p]) hp3).trans y3))) (.of upd_same)
                  have dC : Dp K G3 (.ref p5) (.tuple (chartD ⟨rows, sg, fc, acc⟩)) := .tup s3 (dps_app (.cons (.tup hl3 (dps_ex (x345.trans xG) ha)) (dps_ex (x5.trans xG) ha34)) (.cons (.tup (Evl.ex_t xG hpa) (dps_ex xG hda)) .nil))
                  exact ⟨_, rfl, Evl.sz_of (by simp), fun p6 hp6 => q _ _ (x1.trans ((x45.trans xG).trans (ex_new hp6))) (by
                    rw [eR, ← hins]
                    exact .lst (.of upd_same) (.cons (dp_ex (ex_new hp6) dC) (.cons (.int _) .nil)))⟩
                · have ew : ¬ (wd :: wr).headD Str.empty = "search" := fun h => by
                    have h : wd = "search" := h
                    rw [vstr_eq, h] at e
                    exact absurd e (by simp)
                  obtain ⟨las7, b7, m1, m2, m3, m4⟩ := row x45 hws
                  refine ⟨_, rfl, _, rfl, D, _, _, _, rfl, rfl, .of m1, m3, b7, _, rfl, m4, wok, wl, wn, fun v H6 x6 dp6 => ?_⟩
                  cases hrw : rowAt (wd :: wr) with
                  | error e =>
                    rw [hrw] at dp6
                    cases dp6
                    rw [insAcc_bad acc _ _ ew hrw] at hins
                    refine ⟨_, rfl, _, _, _, _, _, rfl, .ty "int", .base (.int _), kit_ty (by decide +kernel), true, rfl, iteT ?_⟩
                    exact ⟨_, rfl, _, rfl, Evl.sz_of (by simp), fun p6 hp6 => q _ _ (x1.trans ((x45.trans x6).trans (ex_new hp6))) (by
                      rw [eR, ← hins]
                      exact .tup (.of upd_same) (.cons (.int _) (.cons (.int _) .nil)))⟩
                  | ok ds =>
                    rw [hrw] at dp6
                    rw [insAcc_ok acc _ _ ew hrw] at hins
                    cases dp6 with
                    | tup hs6 ha6 =>
                      rename_i b8 xs6
                      refine ⟨_, rfl, _, _, _, _, _, rfl, .ty "int", ty_sq hs6, kit_ty (by decide +kernel), false, rfl, iteF ?_⟩
                      refine ⟨_, rfl, _, rfl, Evl.sz_of (by simp), fun p8 hp8 => ?_⟩
                      have x8 := ex_new (o := .tup [V.ref b8]) hp8
                      refine catA (K := K) (Evl.ex_t (x6.trans x8) hpa) (.of upd_same) (by rw [dps_len hda, List.length_map]; show acc.length + 1 ≤ 100000; omega) fun p9 H9 x9 hs9 => ?_
                      exact ⟨acc ++ [ds], p9, _, _, _, rfl, by rw [List.length_append, hacc]; rfl, hs9, by
                        rw [List.map_append]
                        exact dps_app (dps_ex ((x6.trans x8).trans x9) hda) (.cons (.tup (Evl.ex_t (x8.trans x9) hs6) (dps_ex (x8.trans x9) ha6)) .nil), hins, x5.trans ((x6.trans x8).trans x9)⟩
              · rintro σ H5 ⟨acc, p, ys, o5, o6, rfl, hacc, hpa, hda, hins, x5⟩
                have hlen2 : rows.length + 2 + (rws.length - (rows.length + 2)) = rws.length := by omega
                rw [hlen2, List.drop_of_length_le (Nat.le_refl _), insAcc_nil] at hins
                have x45 := x4.trans x5
                have x345 := x34.trans x5
                refine ⟨_, rfl, ia, _, rfl, .inl ⟨Evl.ex_l x345 hs, fun l hl => ?_⟩⟩
                refine ⟨Evl.sz_of (by simp), fun p1 hp1 => ⟨_, rfl, ?_⟩⟩
                have xl := (ex_new (o := .tup xs) hl).trans (ex_new (o := .tup [V.ref l]) hp1)
                refine catA (K := K) (.of upd_same) (Evl.ex_t (x5.trans xl) hs34) (by rw [dps_len ha3]; simp) fun p2 G2 y2 s2 => ?_
                refine ⟨_, rfl, Evl.sz_of (by simp), fun p3 hp3 => ?_⟩
                refine catA (K := K) (Evl.ex_t (ex_new hp3) s2) (.of upd_same) (by rw [List.length_append, dps_len ha3]; simp) fun p5 G3 y3 s3 => ?_
                have xG := (xl.trans y2).trans ((ex_new (o := .tup [V.ref p]) hp3).trans y3)
                have hl3 : SqT K G3 l xs := Evl.ex_t ((ex_new (o := .tup [V.ref l]) hp1).trans (y2.trans ((ex_new (o := .tup [V.ref p]) hp3).trans y3))) (.of upd_same)
                have dC : Dp K G3 (.ref p5) (.tuple (chartD ⟨rows, sg, fc, acc⟩)) := .tup s3 (dps_app (.cons (.tup hl3 (dps_ex (x345.trans xG) ha)) (dps_ex (x5.trans xG) ha34)) (.cons (.tup (Evl.ex_t xG hpa) (dps_ex xG hda)) .nil))
                obtain ⟨las8, n1, n2, _⟩ := rl.ex (x45.trans xG)
                refine ⟨_, rfl, D, _, rfl, .inl (.of n1), Evl.sz_of (by simp), fun p6 hp6 => q _ _ (x1.trans ((x45.trans xG).trans (ex_new hp6))) ?_⟩
                rw [eR, ← hins, List.length_map, n2]
                exact .lst (.of upd_same) (.cons (dp_ex (ex_new hp6) dC) (.cons (.int _) .nil))
end
end Om
end PartB6
section PartRu10
set_option Elab.async false
set_option linter.all false
set_option maxRecDepth 100000
set_option maxHeartbeats 1000000
namespace Om
open PySem PySem.Spec PyProof.Rows L2 TL
section
variable {prog : Program} {w : World} {A : Around} {E : Value → Shared → Prop} {s : Shared} {l : Addr} {its : List Value} {ns : List Int} {Q : Value → Shared → Prop}
theorem max_tupI (hh : A.handled = none) (hl : s.heap.IsTuple l its.toArray) (hi : IntsAre its ns) (hne : 0 < ns.length)
    (h : ∀ h' tk M t', (∀ b o, s.heap.get? b = some o → h'.get? b = some o) → M ∈ ns → (∀ a, a ∈ ns → a ≤ M) → Q (.int M t') { s with heap := h', toks := tk }) : wpAny (model prog w) A (call (.builtin "max") [.ref l]) Q E s := by
  obtain ⟨xs, e⟩ := hi.allInts.items
  have hn : numsOf (intItems xs).toList = ns := by
    rw [← e]
    exact hi.numsOf
  rw [nums_intItems] at hn
  subst hn
  rw [e] at hl
  have h0 : 0 < xs.size := by simpa using hne
  have lt : l < s.heap.objs.size := by
    obtain ⟨_, e, _⟩ := hl
    exact Heap.lt_size e
  refine call_max_walk (wpAny_pyIter_tuple hl ⟨_, _, _, _, _, _, _, rfl, Walks.tuple (A := A.in1) hh _ l (Nat.ne_of_lt lt) (intItems xs), ⟨⟨_, Heap.get?_push_size _ rfl, rfl, rfl⟩, hl.push _⟩, (fun b hb => ?_), by simpa [intItems] using h0,
    CmpOf.ints_gt (numAt xs) (fun _ _ => intItems_at), fun v h' tk hP hk => ?_⟩)
  · show b < (s.heap.push _).objs.size
    rw [Heap.size_push]
    rcases List.mem_cons.mp hb with rfl | hb
    · exact Nat.lt_succ_self _
    · rw [List.mem_singleton.mp hb]
      exact Nat.lt_succ_of_lt lt
  · have hv : (intItems xs)[argBest (fun i j => decide (numAt xs i > numAt xs j)) (xs.size - 1)]? = some v := by simpa [intItems] using hP
    obtain ⟨t, rfl⟩ := intItems_at hv
    obtain ⟨b1, b2⟩ := argBest_gt (numAt xs) (xs.size - 1)
    refine h h' tk _ t (fun b o e => hk b o (fun hm => Nat.lt_irrefl _ ((List.mem_singleton.mp hm) ▸ Heap.lt_size e)) (Heap.get?_push_of_some _ e)) ?_ fun a ha => ?_
    · rw [numAt_eq]
      exact PySem.getD_mem (by rw [List.length_map, Array.length_toList]; omega)
    · obtain ⟨j, hj, rfl⟩ := mem_getD ha
      rw [List.length_map, Array.length_toList] at hj
      rw [← numAt_eq]
      exact b2 j (by omega)
end
section
variable {X : Cx}
/-- max(a tuple of ints) -/
def rMaxT (K : PySem.W.Frag) : List V → Hp → VK → Prop := fun vs H Q => ∃ (a : Addr) (ns : List Int), vs = [V.ref a] ∧ SqT K H a (ns.map V.int) ∧ 0 < ns.length ∧ ∀ m, m ∈ ns → (∀ y, y ∈ ns → y ≤ m) → Q (.int m) H
theorem cr_maxT (hc : X.calm = true) : CallR X (.builtin "max") (rMaxT X.K) := by
  intro pins s σ H vs us Q I r h
  obtain ⟨a, ns, rfl, hs, hne, q⟩ := h
  obtain ⟨its, rv, hl, _⟩ := I.tuple hs
  rw [Vals.ref1 r]
  exact max_tupI (I.ok.hd hc) hl rv.ints hne fun h' tk m t' hk h1 h2 => ⟨.int _, H, I.kept hk, ⟨_, rfl⟩, q m h1 h2⟩
/-- set(a tuple of ints) -/
def rSetTI (K : PySem.W.Frag) (w : World) : List V → Hp → VK → Prop := fun vs H Q => ∃ (a : Addr) (ns : List Int), vs = [V.ref a] ∧ SqT K H a (ns.map V.int) ∧ ns.length ≤ 60 ∧ ∀ p c, H p = none → c ≤ ns.length → Q (.ref p) (upd H p (SetO w p (fun j => decide (j ∈ ns)) c))
theorem cr_setTI (hc : X.calm = true) : CallR X (.type "set") (rSetTI X.K X.w) := by
  intro pins s σ H vs us Q I r h
  obtain ⟨a, ns, rfl, hs, hz, q⟩ := h
  obtain ⟨its, rv, hl, _⟩ := I.tuple hs
  have hn : H s.heap.objs.size = none := I.hok.fresh (Nat.le_refl _)
  rw [Vals.ref1 r]
  refine call_set_tupI ns (I.ok.hd hc) hl (by simpa using rv.ints) (by unfold scanBound; omega) fun h' tk c hS hle k => ?_
  exact ⟨.ref s.heap.objs.size, upd H s.heap.objs.size (SetO X.w s.heap.objs.size (fun j => decide (j ∈ ns)) c), I.laid (t' := tk) k (Nat.le_refl _) (setO_new hS), rfl, q _ c hn hle⟩
/-- a text times an int -/
def rRepS : R2 := fun x y H Q => ∃ a k, x = .str a ∧ y = .int k ∧ MulOk a k ∧ Q (.str (Txt.mul a k)) H
theorem op_repS : OpR X (binaryOp .Mult) rRepS := by
  intro pins s σ H x y v u Q I rx ry h
  obtain ⟨a, k, rfl, rfl, ok, q⟩ := h
  obtain ⟨t, rfl⟩ := rx
  obtain ⟨t2, rfl⟩ := ry
  exact PySem.SB.mul ok fun t' n => ⟨.str _, H, I.tok _, ⟨t', rfl⟩, q⟩
/-- str(a text or an int) -/
def rStrA : List V → Hp → VK → Prop := fun xs H Q => (∃ a, xs = [.str a] ∧ Q (.str a) H) ∨ ∃ i, xs = [.int i] ∧ i.natAbs.log2 < 1920 ∧ Q (.str (toString i)) H
theorem call_strA : CallR X (.type "str") rStrA := by
  intro pins s σ H xs us Q I r h
  rcases h with h | h
  · exact SkE.call_str_str pins s σ H xs us Q I r h
  · exact call_str_int pins s σ H xs us Q I r h
/-- '..'.join(e).replace('..', '..') -/
theorem pe_joinRepl {c y z : Str} {e : Expr} {te : TE} {j jy jz : Nat} {cp ap pos py pz ap2 pos2 : Pos} (he : PE X e te) (hyz : (y == z) = false := by decide)
    (hs : starEach [e] X.env = [(false, eval e X.env)] := by rfl)
    (hb : attributeBase (.Constant (.str c) j cp) "join" X.env (eval (.Constant (.str c) j cp) X.env) = eval (.Constant (.str c) j cp) X.env := by rfl) (hline : (ap.endLine == pos.line) = true := by rfl)
    (hs2 : starEach [.Constant (.str y) jy py, .Constant (.str z) jz pz] X.env = [(false, eval (.Constant (.str y) jy py) X.env), (false, eval (.Constant (.str z) jz pz) X.env)] := by rfl)
    (hb2 : attributeBase (.Call (.Attribute (.Constant (.str c) j cp) "join" ap) [e] [] pos) "replace" X.env (eval (.Call (.Attribute (.Constant (.str c) j cp) "join" ap) [e] [] pos) X.env) = eval (.Call (.Attribute (.Constant (.str c) j cp) "join" ap) [e] [] pos) X.env := by rfl)
    (hline2 : (ap2.endLine == pos2.line) = true := by rfl) :
    PE X (.Call (.Attribute (.Call (.Attribute (.Constant (.str c) j cp) "join" ap) [e] [] pos) "replace" ap2) [.Constant (.str y) jy py, .Constant (.str z) jz pz] [] pos2)
      (fun σ H Q => te σ H fun v H1 => ∃ p, ∃ ys : List Str, v = .ref p ∧ (SqL X.K H1 p (ys.map V.str) ∨ SqT X.K H1 p (ys.map V.str)) ∧ (ys.map (·.length)).sum + ys.length * c.length ≤ 16777216 ∧
        (Txt.join c ys).length + ((Txt.join c ys).length + 1) * z.length ≤ 16777216 ∧ Q (.str (Txt.replace (Txt.join c ys) y z)) H1) := by
  refine ⟨fun pins s σ H Q I h => ?_⟩
  refine PySem.Call_method2 hb2 hs2 hline2 ?_
  refine PySem.Call_method1 hb hs hline (Calls.Constant_str ?_)
  refine ⟨"str", _, PySem.F.plainAttrs_str, PySem.F.slot_str_join, PySem.F.type_str_join, typeIs_str _ _ _, (fun _ e => nomatch e), Calls.callWith_builtin rfl (Calls.evalArgs_plain (Calls.spliced_cons ?_))⟩
  refine wpAny_mono (PySem.wpAny_toks (he.run pins { s with toks := s.toks + 1 } σ H _ (I.tok _) h)) (fun u s1 q => ?_) fun _ _ z => z.2
  obtain ⟨k1, x, H1, I1, r1, p, ys, rfl, hp, z1, z2, q⟩ := q
  have k1 : s.toks + 1 ≤ s1.toks := k1
  refine Calls.spliced_nil ?_
  refine wpAny_mono (PySem.wpAny_toks (mt_join pins s1 σ H1 (.str c) [.ref p] _ [u] (fun v H2 => v = .str (Txt.join c ys) ∧ Q (.str (Txt.replace (Txt.join c ys) y z)) H2) I1 ⟨_, rfl⟩ (.cons r1 .nil) ⟨c, p, ys, rfl, rfl, hp, z1, rfl, q⟩)) (fun v s2 q => ?_) fun _ _ z => z.2
  obtain ⟨k2, x2, H2, I2, r2, rfl, q2⟩ := q
  obtain ⟨t2, rfl⟩ := r2
  refine ⟨"str", _, PySem.F.plainAttrs_str, PySem.F.slot_str_replace, PySem.F.type_str_replace, typeIs_str _ _ _, (fun _ e => nomatch e), Calls.callWith_builtin rfl (Calls.evalArgs_plain (Calls.spliced_cons ?_))⟩
  refine Calls.Constant_str (Calls.spliced_cons (Calls.Constant_str (Calls.spliced_nil ?_)))
  exact PySem.SC.replace (by show s2.toks ≠ 0; omega) (by show s2.toks + 1 ≠ 0; omega) (by show s2.toks ≠ s2.toks + 1; omega) hyz z2 fun t' k => ⟨.str (Txt.replace (Txt.join c ys) y z), H2, I2.tok k, ⟨t', rfl⟩, q2⟩
end
end Om
end PartRu10
section PartPL9
set_option Elab.async false
set_option linter.all false
namespace Om
open PySem L2 TL
theorem rise_pw : ∀ l : List Int, risingI l = true ↔ l.Pairwise (· < ·)
  | [] => by simp [risingI]
  | [a] => by simp [risingI]
  | a :: b :: r => by
    show (decide (a < b) && risingI (b :: r)) = true ↔ _
    rw [Bool.and_eq_true, decide_eq_true_iff, rise_pw (b :: r)]
    constructor
    · intro ⟨h1, h2⟩
      refine List.pairwise_cons.mpr ⟨fun x hx => ?_, h2⟩
      rcases List.mem_cons.mp hx with e | hx
      · rw [e]
        exact h1
      · exact Int.lt_trans h1 ((List.pairwise_cons.mp h2).1 x hx)
    · intro h
      obtain ⟨h1, h2⟩ := List.pairwise_cons.mp h
      exact ⟨h1 b (.head _), h2⟩
theorem pw_unique : ∀ l m : List Int, l.Pairwise (· < ·) → m.Pairwise (· < ·) → (∀ k, k ∈ l ↔ k ∈ m) → l = m
  | [], [], _, _, _ => rfl
  | [], b :: m, _, _, h => absurd ((h b).mpr (.head _)) (by simp)
  | a :: l, [], _, _, h => absurd ((h a).mp (.head _)) (by simp)
  | a :: l, b :: m, h1, h2, h => by
    obtain ⟨p1, q1⟩ := List.pairwise_cons.mp h1
    obtain ⟨p2, q2⟩ := List.pairwise_cons.mp h2
    have e : a = b := by
      rcases List.mem_cons.mp ((h a).mp (.head _)) with e | e
      · exact e
      · rcases List.mem_cons.mp ((h b).mpr (.head _)) with e2 | e2
        · exact e2.symm
        · have := p1 b e2
          have := p2 a e
          omega
    subst e
    rw [pw_unique l m q1 q2 fun k => ?_]
    constructor
    · intro hk
      rcases List.mem_cons.mp ((h k).mp (.tail _ hk)) with e | e
      · have := p1 k hk
        omega
      · exact e
    · intro hk
      rcases List.mem_cons.mp ((h k).mpr (.tail _ hk)) with e | e
      · have := p2 k hk
        omega
      · exact e
theorem rise_sorted {ts ns : List Int} (h1 : ns.Pairwise (· < ·)) (h2 : ∀ k, k ∈ ns ↔ k ∈ ts) : decide (ts = ns) = risingI ts := by
  rw [Bool.eq_iff_iff, decide_eq_true_iff, rise_pw]
  exact ⟨fun e => by rw [e]; exact h1, fun h => pw_unique ts ns h h1 fun k => (h2 k).symm⟩
theorem eqv_ints : ∀ l m : List Int, PyData.eqv (.list (l.map PyData.int)) (.list (m.map PyData.int)) = decide (l = m)
  | [], [] => rfl
  | [], b :: m => rfl
  | a :: l, [] => rfl
  | a :: l, b :: m => by
    show ((a == b) && PyData.eqv (.list (l.map PyData.int)) (.list (m.map PyData.int))) = _
    rw [eqv_ints l m, Bool.eq_iff_iff]
    simp
theorem intsOf_map : ∀ l : List Int, intsOf (l.map PyData.int) = l
  | [] => rfl
  | a :: l => by
    show a :: intsOf (l.map PyData.int) = _
    rw [intsOf_map l]
theorem all_le3 {ts : List Int} {m : Int} (h1 : m ∈ ts) (h2 : ∀ y, y ∈ ts → y ≤ m) : decide (m ≤ 3) = ts.all fun t => decide (t ≤ 3) := by
  rw [Bool.eq_iff_iff, decide_eq_true_iff, List.all_eq_true]
  exact ⟨fun h t ht => decide_eq_true (Int.le_trans (h2 t ht) h), fun h => of_decide_eq_true (h m h1)⟩
theorem good_turn (h : Str) (ts : List Int) : goodIns [.str h, .tuple (ts.map PyData.int)] = (risingI ts && ts.all fun t => decide (t ≤ 3)) := by
  show (risingI (intsOf (ts.map PyData.int)) && (intsOf (ts.map PyData.int)).all fun t => decide (t ≤ 3)) = _
  rw [intsOf_map]
end Om
end PartPL9
section PartB7
set_option Elab.async false
set_option linter.all false
set_option maxRecDepth 100000
set_option maxHeartbeats 400000
namespace Om
open PySem PySem.Spec PyProof.Rows L2 He TL
section
variable {w : World} {K : Frg} {mg : Str → Option Value} {base : Heap}
theorem rise_rngI (l : List Int) : ((rng 1 (l.length - 1)).all fun k => !decide (l.getD k.toNat 0 ≤ l.getD (k - 1).toNat 0)) = risingI l := by
  rw [Bool.eq_iff_iff, List.all_eq_true, risingI_iff]
  constructor
  · intro h j hj
    have := h (1 + (j : Int)) (rng_mem.mpr (by omega))
    rw [show (1 + (j : Int) - 1).toNat = j by omega, show (1 + (j : Int)).toNat = j + 1 by omega] at this
    have := of_decide_eq_false (by simpa using this : decide (l.getD (j + 1) 0 ≤ l.getD j 0) = false)
    omega
  · intro h k hk
    have hk := rng_mem.mp hk
    have := h (k - 1).toNat (by omega)
    rw [show k.toNat = (k - 1).toNat + 1 by omega, decide_eq_false (by omega)]
    rfl
theorem dps_at {K : Frg} {H : Hp} : ∀ {xs : List V} {ds : List PyData} {i : Nat} {d : PyData}, DpAll K H xs ds → ds[i]? = some d → ∃ x, xs[i]? = some x ∧ Dp K H x d
  | _, _, 0, _, .cons h t, e => by cases e; exact ⟨_, rfl, h⟩
  | _, _, i + 1, _, .cons h t, e => dps_at (i := i) t e
theorem wrongL_nil (k : Nat) : wrongL [] k = none := rfl
/-- an instruction as read, not too long -/
def WfS (d : List PyData) : Prop := Wf d ∧ ∀ ts : List Int, d = [.str "turn", .tuple (ts.map PyData.int)] → ts.length ≤ 60
/-- _law_wrong_index -/
def sp__law_wrong_index (K : Frg) : Sp := fun vs H Q _ => ∃ (a : Addr) (c : Chart), vs = [.ref a] ∧ Dp K H (.ref a) (.tuple (chartD c)) ∧ (∀ d ∈ c.ins, WfS d) ∧ c.ins.length ≤ 1000 ∧ c.facs.length ≤ 1000 ∧
  ∀ v H', Ex H H' → v = (match wrongIx c with | none => .non | some i => .int i) → Q v H'
theorem sc__law_wrong_index : FnScope ["_law_drawn_here", "_law_k", "_law_word", "_law_parts_here", "_law_good"] ["_law_drawn_here"] (defScope s__law_wrong_index) := ⟨rfl, rfl, rfl, by decide +kernel, rfl, by decide +kernel, by decide +kernel⟩
theorem ok__law_wrong_index (T : Tx w K mg) : FnOk prg w K mg base CX0 1 (ga K "_law_wrong_index") (fdOf K (ga K "_law_wrong_index")) ["_law_drawn_here"] (sp__law_wrong_index K) := by
  refine T.f__law_wrong_index.ok sc__law_wrong_index (fun vs H Q E h => ?_) (fun cdv A outer s H vs Q E hr h => ?_)
  · obtain ⟨a, c, rfl, _⟩ := h
    rfl
  · obtain ⟨a, c, rfl, hd, wf, hz1, hz2, q⟩ := h
    refine ⟨_, PSs.nox (pss_cons (ps_if (pt_cmpR (op_neD hr.units) (pe_lc (own := [("_law_k", 1)]) (g := gName 1) rfl sc__law_wrong_index.nd (pi_range2 (by rfl) T.b_range (pa_cons pe_int (pa_cons (pe_callB call_len_seq (by rfl) T.b_len PySem.boot_len (pa_cons (pe_ix ix_tup (pv 0) pe_int (fun _ _ => rfl)) pa_nil)) pa_nil))) (blkOk_by (own := [("_law_k", 1)]) (N := ["_law_drawn_here", "_law_k", "_law_word", "_law_parts_here", "_law_good"]) (sc := defScope s__law_wrong_index) (by decide +kernel)) (fun _ _ _ _ _ => pg_name (i := 1) sc__law_wrong_index.nd rfl (Or.inl rfl)) (fun _ _ _ _ _ => pts_one (pt_cmpR op_ge (pe_ix (kIx (K := K) (r := rIxT) rfl ix_tup) (pe_ix (kIx (K := K) (r := rIxT) rfl ix_tup) (pv 0) pe_int (fun _ _ => rfl)) (pe_op op_sub (pv 1) pe_int) (fun _ _ => rfl)) (pe_ix (kIx (K := K) (r := rIxT) rfl ix_tup) (pe_ix (kIx (K := K) (r := rIxT) rfl ix_tup) (pv 0) pe_int (fun _ _ => rfl)) (pv 1) (fun _ _ => rfl)) (nomark _))) (fun _ _ _ _ _ => (pv 1))) (pe_lst pa_nil) (nomark _)) (pss_one (ps_ret (pe_op op_sub pe_int pe_int))) pss_nil)
      (pss_cons (ps_for PassesOwn.never rfl (pi_range1 (by rfl) T.b_range (pa_cons (pe_callB call_len_seq (by rfl) T.b_len PySem.boot_len (pa_cons (pe_ix ix_tup (pv 0) pe_int (fun _ _ => rfl)) pa_nil)) pa_nil)) (pg_name (i := 1) sc__law_wrong_index.nd rfl (Or.inl rfl)) (pss_cons (ps_par (i := 2) (j := 3) (by rfl) sc__law_wrong_index.nd rfl rfl (by decide) rfl rfl (pa_cons (pe_ix ix_tup (pe_ix ix_tup (pe_ix ix_tup (pv 0) pe_int (fun _ _ => rfl)) (pv 1) (fun _ _ => rfl)) pe_int (fun _ _ => rfl)) (pa_cons (pe_slice sl_tupA (pe_ix ix_tup (pe_ix ix_tup (pv 0) pe_int (fun _ _ => rfl)) (pv 1) (fun _ _ => rfl)) (po_some pe_int) po_none) pa_nil)) (by rfl))
      (pss_cons (ps_set (i := 4) sc__law_wrong_index.nd rfl (Or.inl rfl) pe_bl)
      (Evl.pss_cut (ps_if (pt_cmpR op_eq (pv 2) pe_str (nomark _)) (pss_one (ps_set (i := 4) sc__law_wrong_index.nd rfl (Or.inl rfl) (pe_and (pe_cmpR op_le (pe_callB (cr_maxT rfl) (by rfl) T.b_max (by decide +kernel) (pa_cons (pe_ix ix_tup (pv 3) pe_int (fun _ _ => rfl)) pa_nil)) pe_int (nomark _)) (pe_one (pe_cmpR (op_eqD hr.units) (pe_callTy call_list_of (by rfl) T.b_list boot_list (pa_cons (pe_ix ix_tup (pv 3) pe_int (fun _ _ => rfl)) pa_nil)) (pe_callB (cr_sortedSet rfl) (by rfl) T.b_sorted boot_sorted (pa_cons (pe_callTy (cr_setTI rfl) (by rfl) T.b_set boot_set (pa_cons (pe_ix ix_tup (pv 3) pe_int (fun _ _ => rfl)) pa_nil)) pa_nil)) (nomark _)))))) pss_nil)
      (Evl.pss_cut (ps_if (pt_cmpR op_in_seq (pv 2) (pe_tup (pa_cons pe_str (pa_cons pe_str pa_nil))) (by rfl)) (pss_one (ps_set (i := 4) sc__law_wrong_index.nd rfl (Or.inl rfl) (pe_and (pe_chain op_le op_le (pe_ix ix_tup (pv 3) (pe_op op_sub pe_int pe_int) (fun _ _ => rfl)) (pe_ix ix_tup (pv 3) (pe_op op_sub pe_int pe_int) (fun _ _ => rfl)) pe_int) (pe_one (pe_or (pe_cmpR op_eq (pv 2) pe_str (nomark _)) (pe_one (pe_cmpR op_in_seq (pe_ix ix_tup (pv 3) pe_int (fun _ _ => rfl)) (pe_tup (pa_cons pe_int (pa_cons pe_int pa_nil))) (by rfl)))))))) pss_nil)
      (Evl.pss_cut (ps_if (PW.pt (pw_or (PW.pt (pw_and (pt_cmpR op_eq (pv 2) pe_str (nomark _)) (pw_and1 (pt_cmpR op_gt (pe_ix ix_tup (pv 3) pe_int (fun _ _ => rfl)) pe_int (nomark _))))) (pw_or1 (PW.pt (pw_and (pt_cmpR op_eq (pv 2) pe_str (nomark _)) (pw_and1 (pt_cmpR op_gt (pe_ix ix_tup (pv 3) pe_int (fun _ _ => rfl)) pe_int (nomark _)))))))) (pss_one (ps_set (i := 4) sc__law_wrong_index.nd rfl (Or.inl rfl) pe_bl)) pss_nil)
      (pss_one (ps_if (PW.pt (pw_or (pt_not (pt_val (pv 4))) (pw_or1 (pt_cmpR op_eq (pv 1) pe_int (nomark _))))) (pss_one (ps_ret (pv 1))) pss_nil))))))))
      (pss_one (ps_ret pe_non)))), ?_⟩
    cases hd with
    | tup hs ha =>
      unfold chartD at ha
      cases ha with
      | cons d1 ha =>
        cases ha with
        | cons d2 ha =>
          cases ha with
          | cons d3 ha =>
            cases ha with
            | cons d4 ha =>
              cases ha
              cases d3 with
              | tup hs3 ha3 =>
                obtain rfl := dps_int_eq ha3
                cases d4 with
                | tup hs4 ha4 =>
                  rename_i v1 v2 fa ta xs4
                  have h4l : xs4.length = c.ins.length := by rw [dps_len ha4, List.length_map]
                  have lenF : (List.map V.int c.facs).length = c.facs.length := List.length_map ..
                  have top2 : ∀ {H'}, Ex H H' → SqT K H' a [v1, v2, .ref fa, .ref ta] := fun x => Evl.ex_t x hs
                  have fas : ∀ {H'}, Ex H H' → SqT K H' fa (c.facs.map V.int) := fun x => Evl.ex_t x hs3
                  have fget : ∀ {j : Nat}, j < c.facs.length → atI (c.facs.map V.int) (j : Int) = some (.int (c.facs.getD j 0)) := fun {j} hj => atI_nat (by rw [List.getElem?_map, List.getElem?_eq_getElem hj, List.getD_eq_getElem?_getD, List.getElem?_eq_getElem hj]; rfl)
                  refine ⟨_, rfl, _, _, 2, _, rfl, rfl, hs, rfl, fa, _, rfl, .inr hs3, 1, _, rfl, ⟨by decide, by decide, by omega, by omega⟩, fun D2 hD2 => lcR (K := K) (fun k => decide (c.facs.getD k.toNat 0 ≤ c.facs.getD (k - 1).toNat 0)) hD2 (by omega) (fun _ => rfl) rfl (fun i H3 Pt hi x4 hp4 => ?_) ?_⟩
                  · rw [lenF] at hi
                    have t1 : (1 + (i : Int) - 1).toNat = i := by omega
                    have t2 : (1 + (i : Int)).toNat = 1 + i := by omega
                    rw [t1, t2] at hp4
                    have x04 := x4
                    refine ⟨_, rfl, a, _, 2, _, rfl, rfl, top2 x04, rfl, _, rfl, _, _, rfl, rfl, fa, _, _, _, rfl, rfl, fas x04, by rw [show 1 + (i : Int) - 1 = (i : Nat) by omega]; exact fget (by omega), _, rfl, a, _, 2, _, rfl, rfl, top2 x04, rfl, _, rfl, fa, _, _, _, rfl, rfl, fas x04, by rw [show 1 + (i : Int) = ((1 + i : Nat) : Int) by omega]; exact fget (by omega), _, _, rfl, rfl, _, rfl, hp4⟩
                  · intro H3 x4 hn4
                    refine ⟨by decide, fun p4 hp4 => nil_ne (hn4.ex (ex_new hp4)) upd_same ?_⟩
                    rw [filter_noneI]
                    have en : (((c.facs.map V.int).length : Int) - 1).toNat = c.facs.length - 1 := by omega
                    rw [en, rise_rngI]
                    have x5 := x4.trans (ex_new (o := .lst []) hp4)
                    generalize upd H3 p4 (.lst []) = H5 at x5 ⊢
                    refine ⟨_, rfl, ifB (fun e => ?_) (fun e => ?_)⟩
                    · refine ⟨_, _, rfl, rfl, q _ _ x5 ?_⟩
                      have er : risingI c.facs = false := by simpa using e
                      unfold wrongIx
                      rw [if_pos er]
                      rfl
                    have er : ¬ risingI c.facs = false := by
                      intro h
                      rw [h] at e
                      cases e
                    have eW : wrongIx c = (wrongL c.ins 0).map fun k => (k : Int) := by
                      unfold wrongIx
                      rw [if_neg er]
                    have ret : ∀ {H' : Hp} {o : Option Nat} {v : V}, Ex H H' → wrongL c.ins 0 = o → v = (match o.map (fun k => (k : Int)) with | none => .non | some i => .int i) → Q v H' := fun {H' o v} x h1 h2 => q v H' x (by rw [eW, h1]; exact h2)
                    have x5t : SqT K H5 ta xs4 := Evl.ex_t x5 hs4
                    refine ⟨_, rfl, a, _, 3, _, rfl, rfl, top2 x5, rfl, ta, _, rfl, .inr x5t, ?_⟩
                    refine ⟨_, rfl, by omega, by omega, ?_⟩
                    have hn2 : ((xs4.length : Int) - 0).toNat = c.ins.length := by omega
                    refine for_range (fun i σ H' => ∃ (o1 o2 o3 o4 : Option V), σ = [some (.ref a), o1, o2, o3, o4] ∧ wrongL (c.ins.drop i) i = wrongL c.ins 0 ∧ Ex H H') ⟨none, none, none, none, rfl, rfl, x5⟩ ?_ ?_
                    · rintro i σ H6 hi6 ⟨o1, o2, o3, o4, rfl, hw6, x6⟩
                      have hj : i < c.ins.length := by omega
                      obtain ⟨d, hdi⟩ : ∃ d, c.ins[i]? = some d := ⟨_, List.getElem?_eq_getElem hj⟩
                      have wfd := wf d (List.mem_of_getElem? hdi)
                      have hdr : c.ins.drop i = d :: c.ins.drop (i + 1) := by
                        rw [List.drop_eq_getElem_cons hj, Option.some.inj ((List.getElem?_eq_getElem hj).symm.trans hdi)]
                      rw [hdr, wrongL_cons] at hw6
                      obtain ⟨xi, hxi, dxi⟩ := dps_at ha4 (show (c.ins.map PyData.tuple)[i]? = some (.tuple d) by rw [List.getElem?_map, hdi]; rfl)
                      cases dxi with
                      | tup hsI haI =>
                        rename_i ti xsI
                        have tas : ∀ {H'}, Ex H H' → SqT K H' ta xs4 := fun x => Evl.ex_t x hs4
                        have tis : ∀ {H'}, Ex H H' → SqT K H' ti xsI := fun x => Evl.ex_t x hsI
                        have hti : atI xs4 (0 + (i : Int)) = some (.ref ti) := by rw [Int.zero_add]; exact atI_nat hxi
                        obtain ⟨hd, rs, rfl⟩ : ∃ hd rs, d = .str hd :: rs := by cases wfd.1 <;> exact ⟨_, _, rfl⟩
                        cases haI with
                        | cons hh haI =>
                          cases hh
                          rename_i ys
                          refine ⟨_, rfl, a, _, 3, _, rfl, rfl, top2 x6, rfl, _, rfl, ta, _, _, _, rfl, rfl, tas x6, hti, ti, _, 0, .str hd, rfl, rfl, tis x6, atI_nat (j := 0) rfl, _, rfl, a, _, 3, _, rfl, rfl, top2 x6, rfl, _, rfl, ta, _, _, _, rfl, rfl, tas x6, hti, _, rfl, ?_⟩
                          unfold tNoPart
                          refine slA (K := K) (tis x6) (fun b H7 x7 hs7 => ?_)
                          refine ⟨_, _, rfl, ?_⟩
                          have ec : cutV (V.str hd :: ys) (some 1) none = ys := cutV_from _ 1
                          rw [ec] at hs7
                          have x67 := x6.trans x7
                          have haI7 := dps_ex x67 haI
                          clear haI
                          refine ⟨fun σ' H' => σ' = [some (.ref a), some (.int (0 + (i : Int))), some (.str hd), some (.ref b), some (.bl (if hd = "turn" then goodIns (.str hd :: rs) else true))] ∧ Ex H7 H', ?_, ?_⟩
                          · refine ⟨_, rfl, rfl, _, rfl, ?_⟩
                            refine ifB (fun e => ?_) (fun e => ?_)
                            · have ew : hd = "turn" := by
                                rw [vstr_eq] at e
                                exact ext_tl (of_decide_eq_true e)
                              obtain ⟨wf1, wf2⟩ := wfd
                              cases wf1 with
                              | turn ts t1 t2 t3 =>
                                have t4 := wf2 ts rfl
                                cases haI7 with
                                | cons h1 h2 =>
                                  cases h2
                                  cases h1 with
                                  | tup hsT haT =>
                                    obtain rfl := dps_int_eq haT
                                    rename_i tt
                                    have pos : 0 < ts.length := List.length_pos_iff.mpr t1
                                    refine ⟨_, rfl, b, _, 0, _, rfl, rfl, hs7, atI_nat (j := 0) rfl, tt, ts, rfl, hsT, pos, fun m hm1 hm2 => ?_⟩
                                    refine ⟨_, _, rfl, rfl, _, rfl, ?_⟩
                                    rw [if_pos ew, good_turn, ← all_le3 hm1 hm2]
                                    refine ifB (fun e3 => ?_) (fun e3 => ?_)
                                    · refine ⟨_, rfl, b, _, 0, _, rfl, rfl, hs7, atI_nat (j := 0) rfl, tt, _, rfl, .inr hsT, fun l hl => ?_⟩
                                      have xl := ex_new (o := .lst (ts.map V.int)) hl
                                      refine ⟨_, rfl, b, _, 0, _, rfl, rfl, Evl.ex_t xl hs7, atI_nat (j := 0) rfl, tt, ts, rfl, Evl.ex_t xl hsT, t4, fun p n hp hn => ?_⟩
                                      refine ⟨p, _, n, rfl, upd_same, by omega, fun ns p2 n1 n2 n3 hp2 => ?_⟩
                                      have xp := ex_new (o := SetO w p (fun j => decide (j ∈ ts)) n) hp
                                      have xp2 := ex_new (o := .lst (ns.map V.int)) hp2
                                      refine ⟨.list (ts.map PyData.int), .list (ns.map PyData.int), .lst (.of (xp2 _ _ (xp _ _ upd_same))) (dps_int ts), .lst (.of upd_same) (dps_int ns), shaped_list (tupDs_int 8 ts) (by decide), shaped_list (tupDs_int 8 ns) (by decide), ?_⟩
                                      rw [eqv_ints, rise_sorted n1 (fun k => (n2 k).trans (by simp)), e3, Bool.and_true]
                                      exact ⟨rfl, (xl.trans xp).trans xp2⟩
                                    · rw [e3, Bool.and_false]
                                      exact ⟨rfl, Evl.Ex.refl _⟩
                              | _ => exact absurd ew (by decide +kernel)
                            · have ew : ¬ hd = "turn" := fun h => by
                                rw [vstr_eq, h] at e
                                exact absurd e (by simp)
                              refine ⟨?_, Evl.Ex.refl _⟩
                              rw [if_neg ew]
                              rfl
                          rintro σ' H8 ⟨rfl, x8⟩
                          refine ⟨fun σ' H' => σ' = [some (.ref a), some (.int (0 + (i : Int))), some (.str hd), some (.ref b), some (.bl (if hd = "turn" ∨ hd = "walk" ∨ hd = "shore" then goodIns (.str hd :: rs) else true))] ∧ Ex H7 H', ?_, ?_⟩
                          · refine ⟨_, rfl, Evl.sz_of (by simp), fun p hp => ⟨p, _, rfl, .inr (.of upd_same), rfl, rfl, _, rfl, ?_⟩⟩
                            have xq := x8.trans (ex_new (o := .tup [V.str "walk", V.str "shore"]) hp)
                            generalize upd H8 p (.tup [V.str "walk", V.str "shore"]) = H9 at xq ⊢
                            have hs9 := Evl.ex_t xq hs7
                            cases wfd.1 with
                            | walk wa wb _ _ =>
                              refine ifB (fun _ => ?_) (fun e => absurd e (by decide +kernel))
                              cases haI7 with
                              | cons h1 h2 =>
                                cases h1
                                cases h2 with
                                | cons h1 h2 =>
                                  cases h1
                                  cases h2
                                  have eg : goodIns [.str "walk", .int wa, .int wb] = (decide (wa ≤ wb) && decide (wb ≤ 20)) := rfl
                                  refine ⟨_, rfl, _, _, rfl, rfl, b, _, _, _, rfl, rfl, hs9, rfl, _, rfl, _, _, rfl, rfl, b, _, _, _, rfl, rfl, hs9, rfl, _, _, rfl, rfl, _, rfl, ?_⟩
                                  refine ifB (fun e1 => ?_) (fun e1 => ?_)
                                  · refine ⟨_, _, rfl, rfl, _, rfl, ?_⟩
                                    refine ifB (fun e2 => ?_) (fun e2 => ?_)
                                    · refine ⟨_, rfl, rfl, _, rfl, ifB (fun _ => ⟨?_, xq⟩) (fun e => absurd e (by decide +kernel))⟩
                                      rw [if_neg (by decide +kernel), if_pos (by decide +kernel), eg, e1, e2]
                                      rfl
                                    · refine ⟨?_, xq⟩
                                      rw [if_neg (by decide +kernel), if_pos (by decide +kernel), eg, e2, Bool.and_false]
                                      rfl
                                  · refine ⟨_, rfl, iteF ⟨?_, xq⟩⟩
                                    rw [if_neg (by decide +kernel), if_pos (by decide +kernel), eg, e1]
                                    rfl
                            | shor ws wa wb _ _ _ =>
                              refine ifB (fun _ => ?_) (fun e => absurd e (by decide +kernel))
                              cases haI7 with
                              | cons h1 h2 =>
                                cases h1
                                cases h2 with
                                | cons h1 h2 =>
                                  cases h1
                                  cases h2 with
                                  | cons h1 h2 =>
                                    cases h1
                                    cases h2
                                    have eg : goodIns [.str "shore", .int ws, .int wa, .int wb] = ((decide (ws = 1) || decide (ws = 3)) && (decide (wa ≤ wb) && decide (wb ≤ 20))) := rfl
                                    refine ⟨_, rfl, _, _, rfl, rfl, b, _, _, _, rfl, rfl, hs9, rfl, _, rfl, _, _, rfl, rfl, b, _, _, _, rfl, rfl, hs9, rfl, _, _, rfl, rfl, _, rfl, ?_⟩
                                    refine ifB (fun e1 => ?_) (fun e1 => ?_)
                                    · refine ⟨_, _, rfl, rfl, _, rfl, ?_⟩
                                      refine ifB (fun e2 => ?_) (fun e2 => ?_)
                                      · refine ⟨_, rfl, rfl, _, rfl, ifB (fun e => absurd e (by decide +kernel)) (fun _ => ?_)⟩
                                        refine ⟨_, rfl, b, _, 0, _, rfl, rfl, hs9, atI_nat (j := 0) rfl, Evl.sz_of (by simp), fun p6 hp6 => ⟨p6, _, rfl, .inr (.of upd_same), rfl, rfl, ?_, xq.trans (ex_new hp6)⟩⟩
                                        have ein : inV (.int ws) [.int 1, .int 3] = (decide (ws = 1) || decide (ws = 3)) := by
                                          show (((1 : Int) == ws) || (((3 : Int) == ws) || false)) = _
                                          rw [Bool.or_false]
                                          congr 1
                                          · exact decide_eq_decide.mpr eq_comm
                                          · exact decide_eq_decide.mpr eq_comm
                                        show [some (V.ref a), some (V.int (0 + (i : Int))), some (V.str "shore"), some (V.ref b), some (V.bl (inV (.int ws) [.int 1, .int 3]))] = [some (V.ref a), some (V.int (0 + (i : Int))), some (V.str "shore"), some (V.ref b), some (V.bl (if ("shore" : Str) = "turn" ∨ ("shore" : Str) = "walk" ∨ ("shore" : Str) = "shore" then goodIns [.str "shore", .int ws, .int wa, .int wb] else true))]
                                        rw [if_pos (by decide +kernel), eg, e1, e2, ein, Bool.and_true, Bool.and_true]
                                      · refine ⟨?_, xq⟩
                                        rw [if_neg (by decide +kernel), if_pos (by decide +kernel), eg, e2, Bool.and_false, Bool.and_false]
                                        rfl
                                    · refine ⟨_, rfl, iteF ⟨?_, xq⟩⟩
                                      rw [if_neg (by decide +kernel), if_pos (by decide +kernel), eg, e1, Bool.false_and, Bool.and_false]
                                      rfl
                            | turn => exact ifB (fun e => absurd e (by decide +kernel)) (fun _ => ⟨rfl, xq⟩)
                            | untl => exact ifB (fun e => absurd e (by decide +kernel)) (fun _ => ⟨rfl, xq⟩)
                            | towd => exact ifB (fun e => absurd e (by decide +kernel)) (fun _ => ⟨rfl, xq⟩)
                            | besd => exact ifB (fun e => absurd e (by decide +kernel)) (fun _ => ⟨rfl, xq⟩)
                            | near => exact ifB (fun e => absurd e (by decide +kernel)) (fun _ => ⟨rfl, xq⟩)
                          rintro σ' H9 ⟨rfl, x9⟩
                          refine ⟨fun σ' H' => σ' = [some (.ref a), some (.int (0 + (i : Int))), some (.str hd), some (.ref b), some (.bl (goodIns (.str hd :: rs)))] ∧ Ex H7 H', ?_, ?_⟩
                          · have hs9 := Evl.ex_t x9 hs7
                            refine ⟨_, rfl, rfl, _, rfl, ?_⟩
                            cases wfd.1 with
                            | besd t z _ _ _ _ =>
                              refine ifB (fun _ => ?_) (fun e => absurd e (by decide +kernel))
                              cases haI7 with
                              | cons h1 h2 =>
                                cases h1
                                refine ⟨_, rfl, b, _, 0, _, rfl, rfl, hs9, atI_nat (j := 0) rfl, _, _, rfl, rfl, _, rfl, ?_⟩
                                have eg : goodIns [.str "beside", .int t, .str z] = decide (t ≤ 3) := rfl
                                refine ifB (fun e1 => ?_) (fun e1 => ?_)
                                · refine ⟨?_, x9⟩
                                  have e1 := of_decide_eq_true e1
                                  rw [eg, decide_eq_false (by omega)]
                                  rfl
                                · have e1 := of_decide_eq_false e1
                                  refine ⟨_, rfl, rfl, _, rfl, ifB (fun e => absurd e (by decide +kernel)) (fun _ => ⟨?_, x9⟩)⟩
                                  rw [eg, decide_eq_true (show t ≤ 3 by omega), if_neg (by decide +kernel)]
                            | near z m _ _ _ _ =>
                              refine ifB (fun e => absurd e (by decide +kernel)) (fun _ => ?_)
                              refine ⟨_, rfl, rfl, _, rfl, ifB (fun _ => ?_) (fun e => absurd e (by decide +kernel))⟩
                              cases haI7 with
                              | cons h1 h2 =>
                                cases h1
                                cases h2 with
                                | cons h1 h2 =>
                                  cases h1
                                  refine ⟨_, rfl, b, _, 1, _, rfl, rfl, hs9, atI_nat (j := 1) rfl, _, _, rfl, rfl, _, rfl, ?_⟩
                                  have eg : goodIns [.str "near", .str z, .int m] = decide (m ≤ 22) := rfl
                                  refine ifB (fun e1 => ?_) (fun e1 => ?_)
                                  · refine ⟨?_, x9⟩
                                    have e1 := of_decide_eq_true e1
                                    rw [eg, decide_eq_false (by omega)]
                                    rfl
                                  · have e1 := of_decide_eq_false e1
                                    refine ⟨?_, x9⟩
                                    rw [eg, decide_eq_true (show m ≤ 22 by omega), if_neg (by decide +kernel)]
                            | turn ts _ _ _ => exact ifB (fun e => absurd e (by decide +kernel)) (fun _ => ⟨_, rfl, rfl, _, rfl, ifB (fun e => absurd e (by decide +kernel)) (fun _ => ⟨by rw [if_pos (by decide +kernel)], x9⟩)⟩)
                            | walk wa wb _ _ => exact ifB (fun e => absurd e (by decide +kernel)) (fun _ => ⟨_, rfl, rfl, _, rfl, ifB (fun e => absurd e (by decide +kernel)) (fun _ => ⟨by rw [if_pos (by decide +kernel)], x9⟩)⟩)
                            | shor ws wa wb _ _ _ => exact ifB (fun e => absurd e (by decide +kernel)) (fun _ => ⟨_, rfl, rfl, _, rfl, ifB (fun e => absurd e (by decide +kernel)) (fun _ => ⟨by rw [if_pos (by decide +kernel)], x9⟩)⟩)
                            | untl z _ _ _ => exact ifB (fun e => absurd e (by decide +kernel)) (fun _ => ⟨_, rfl, rfl, _, rfl, ifB (fun e => absurd e (by decide +kernel)) (fun _ => ⟨by rw [if_neg (by decide +kernel)]; rfl, x9⟩)⟩)
                            | towd z _ _ _ => exact ifB (fun e => absurd e (by decide +kernel)) (fun _ => ⟨_, rfl, rfl, _, rfl, ifB (fun e => absurd e (by decide +kernel)) (fun _ => ⟨by rw [if_neg (by decide +kernel)]; rfl, x9⟩)⟩)
                          rintro σ' H10 ⟨rfl, x10⟩
                          refine ⟨_, rfl, _, rfl, ?_⟩
                          have xx := x67.trans x10
                          have rk : ∀ (e : goodIns (.str hd :: rs) = false ∨ i = 20), Q (.int (0 + (i : Int))) H10 := fun e => by
                            rw [if_pos e] at hw6
                            refine ret xx (o := some i) hw6.symm ?_
                            rw [Int.zero_add]
                            rfl
                          refine ifB (fun e => ?_) (fun e => ?_)
                          · exact ⟨_, rfl, rk (.inl (by simpa using e))⟩
                          · have e4 : ∀ (n : Nat), decide (V.int (0 + (n : Int)) = V.int 20) = decide (n = 20) := fun n => by
                              by_cases h : n = 20
                              · rw [h]; rfl
                              · rw [decide_eq_false h]
                                exact decide_eq_false fun q => h (by have := V.int.inj q; omega)
                            refine ⟨_, rfl, rfl, _, rfl, ?_⟩
                            rw [e4]
                            refine ifB (fun e5 => ?_) (fun e5 => ?_)
                            · exact ⟨_, rfl, rk (.inr (of_decide_eq_true e5))⟩
                            · have e6 : ¬ (goodIns (.str hd :: rs) = false ∨ i = 20) := fun h => by
                                rcases h with h | h
                                · rw [h] at e
                                  cases e
                                · exact of_decide_eq_false e5 h
                              rw [if_neg e6] at hw6
                              exact ⟨_, _, _, _, rfl, hw6, xx⟩
                    · rintro σ H6 ⟨o1, o2, o3, o4, rfl, hw6, x6⟩
                      refine ret x6 (o := none) ?_ rfl
                      rw [← hw6, List.drop_of_length_le (by omega)]
                      rfl
end
end Om
end PartB7
section PartB8
set_option Elab.async false
set_option linter.all false
set_option maxRecDepth 100000
set_option maxHeartbeats 400000
namespace Om
open PySem PySem.Spec PyProof.Rows L2 He TL
/-- a[i] of a list or a tuple -/
def rIxA (K : Frg) : R2 := fun x y H Q => rIxL K x y H Q ∨ rIxT K x y H Q
theorem ix_any {X : Cx} : IxR X (rIxA X.K) := by
  intro value slice pins s σ H x y v u Q I rx ry h hs
  rcases h with h | h
  · exact ix_list value slice pins s σ H x y v u Q I rx ry h hs
  · exact ix_tup value slice pins s σ H x y v u Q I rx ry h hs
/-- [k for k in range(lo, lo + n) if ..], the test calls -/
theorem lcRc {K : Frg} {lo : Int} {n : Nat} {j : Nat} {tt : TT} {vs : List Nat} {σ : L2.St} {H1 : Hp} {D : Addr} {Qd : Hp → Prop} (p : Int → Bool) (hD : H1 D = none) (hz : n ≤ 40000)
    (hw : ∀ x, wipe ((wipe σ vs).set j (some x)) vs = wipe σ vs) (hj : Nat.blt j (wipe σ vs).length = true) (ht : ∀ (i : Nat) H2 (Pt : Bool → Hp → Prop), i < n → Ex H1 H2 → (∀ H3, Ex H2 H3 → Pt (p (lo + i)) H3) → tt ((wipe σ vs).set j (some (.int (lo + i)))) H2 Pt)
    (hd : ∀ H', Ex H1 H' → NewL K H' D (((rng lo n).filter p).map PyData.int) → Qd H') :
    ∃ W : Nat → Nat → Hp → Prop, (∃ m, W 0 m (upd H1 D (.lst []))) ∧ ∀ i m H, W i m H →
      ((Itr lo n).stop i H ∧ Qd H) ∨ ((Itr lo n).go i H ∧ ∃ Nx : Hp → Prop, (∀ H', Nx H' → ∃ m', m' < m ∧ W (i + 1) m' H') ∧ ∀ x H', (Itr lo n).yld i H x H' → (gName j) x (wipe σ vs) H' fun σ2 H2 => wipe σ2 vs = wipe σ vs ∧ tt σ2 H2 fun b H3 =>
        if b = true then (tVar j) σ2 H3 fun y H4 => ∃ acc, H4 D = some (.lst acc) ∧ acc.length < sizeLine ∧ Nx (upd H4 D (.lst (acc ++ [y]))) else Nx H3) := by
  refine lcD (K := K) (S := []) (g := gName j) (tt := tt) (te := tVar j) (vs := vs) (σ := σ) (walk_range (lo := lo) (n := n)) hD (fun _ => True) (fun i ds => ds = ((rng lo i).filter p).map PyData.int) (by simp) hz (fun _ _ _ => trivial) (fun _ _ _ => trivial) trivial rfl ?_ ?_
  · intro i x H H' ds P1 P2 hi hr k1 _ y c1 c2
    obtain ⟨rfl, rfl⟩ := y
    have es : (rng lo (i + 1)).filter p = (rng lo i).filter p ++ (if p (lo + i) = true then [lo + (i : Int)] else []) := by
      rw [rng_succ, List.filter_append, List.filter_cons]
      rfl
    refine ⟨hw _, ht i _ _ hi k1.ex fun H3 x3 => ?_⟩
    refine ifB (fun e => ⟨.int (lo + i), by rw [List.getElem?_set_self (Nat.blt_eq.mp hj)], c1 _ (.int (lo + i)) _ (.of x3) trivial (.int _) (by unfold tupD; rfl) ?_⟩) (fun e => c2 _ (.of x3) trivial ?_)
    · rw [es, if_pos e, List.map_append, hr]
      rfl
    · rw [es, if_neg (by rw [e]; exact Bool.false_ne_true), List.append_nil, hr]
  · intro H' ds k1 _ hn hr hl
    refine hd H' k1.ex ?_
    rw [hr] at hn
    exact hn
/-- data of the law's answers, by depth -/
def lawD : Nat → PyData → Prop
  | _, .int _ => True
  | _, .str z => PyData.strOk z = true
  | n + 1, .tuple ds => ds.length ≤ 1000 ∧ ∀ d ∈ ds, lawD n d
  | n + 1, .list ds => ds.length ≤ 1000 ∧ ∀ d ∈ ds, lawD n d
  | _, _ => False
section
variable {w : World} {K : Frg} {mg : Str → Option Value} {base : Heap}
theorem shaped_str {z : Str} (h : PyData.strOk z = true) : SeqAt.shaped (.str z) = true := shaped_of (n := 0) (by unfold tupD; exact h) (by decide)
theorem kit_any2 {K : Frg} {t a b : Value} {x y : Bool} (h1 : PySem.W.kitOne K t a = some x) (h2 : PySem.W.kitOne K t b = some y) : PySem.W.kitAny K t [a, b] = some (x || y) := by
  unfold PySem.W.kitAny
  rw [h1]
  cases x with
  | true => rfl
  | false =>
    show (match PySem.W.kitOne K t b with | some true => some true | some false => PySem.W.kitAny K t [] | none => none) = _
    rw [h2]
    cases y <;> rfl
theorem kAny {K : Frg} {t : String} (x y : Bool) (h1 : kitB t "tuple" = some x) (h2 : kitB t "list" = some y) : PySem.W.kitAny K (.type t) [.type "tuple", .type "list"] = some (x || y) := kit_any2 (kit_ty h1) (kit_ty h2)
theorem cls2 {a b : String} : Paired ClsV [.ty a, .ty b] [.type a, .type b] := .cons (.ty a) (.cons (.ty b) .nil)
/-- _law_alike of the same twice -/
def sp__law_alike (K : Frg) (n : Nat) : Sp := fun vs H Q _ => ∃ (x y : V) (d : PyData), vs = [x, y] ∧ Dp K H x d ∧ Dp K H y d ∧ lawD n d ∧ ∀ H', Ex H H' → Q (.bl true) H'
theorem sc__law_alike : FnScope ["_law_found", "_law_due", "_law_k"] ["_law_found", "_law_due"] (defScope s__law_alike) := ⟨rfl, rfl, rfl, by decide +kernel, rfl, by decide +kernel, by decide +kernel⟩
theorem ok_al0 (T : Tx w K mg) : FnOk prg w K mg base CX0 1 (ga K "_law_alike") (fdOf K (ga K "_law_alike")) ["_law_found", "_law_due"] (sp__law_alike K 0) := by
  refine T.f__law_alike.ok sc__law_alike (fun vs H Q E h => ?_) (fun cdv A outer s H vs Q E hr h => ?_)
  · obtain ⟨x, y, d, rfl, _⟩ := h
    rfl
  · obtain ⟨x, y, d, rfl, hx, hy, ld, q⟩ := h
    refine ⟨_, PSs.nox (pss_cons (ps_if (pt_val (pe_callB call_isi (by rfl) T.b_isinstance boot_isinstance (pa_cons (pv 1) (pa_cons (pe_bltn (v := .ty "dict") (by rfl) T.b_dict boot_dict rfl) pa_nil)))) (pss_one (ps_never)) pss_nil)
      (pss_cons (ps_if (pt_val (pe_callB call_isiT (by rfl) T.b_isinstance boot_isinstance (pa_cons (pv 1) (pa_cons (pe_tup (pa_cons (pe_bltn (v := .ty "tuple") (by rfl) T.b_tuple boot_tuple rfl) (pa_cons (pe_bltn (v := .ty "list") (by rfl) T.b_list boot_list rfl) pa_nil))) pa_nil)))) (pss_cons (ps_never)
      (pss_cons (ps_never)
      (pss_one (ps_never)))) pss_nil)
      (pss_cons (ps_if (PW.pt (pw_or (pt_cmpR op_isN (pv 1) pe_non (nomark _)) (pw_or1 (pt_val (pe_callB call_isi (by rfl) T.b_isinstance boot_isinstance (pa_cons (pv 1) (pa_cons (pe_bltn (v := .ty "str") (by rfl) T.b_str boot_str rfl) pa_nil))))))) (pss_one (ps_ret (pe_and (pe_cmpR (op_eqD hr.units) (pv 0) (pv 1) (nomark _)) (pe_one (pe_cmpR op_eq (pe_callB call_isi (by rfl) T.b_isinstance boot_isinstance (pa_cons (pv 0) (pa_cons (pe_bltn (v := .ty "str") (by rfl) T.b_str boot_str rfl) pa_nil))) (pe_callB call_isi (by rfl) T.b_isinstance boot_isinstance (pa_cons (pv 1) (pa_cons (pe_bltn (v := .ty "str") (by rfl) T.b_str boot_str rfl) pa_nil))) (nomark _)))))) pss_nil)
      (pss_one (ps_ret (pe_and (pe_callB call_isi (by rfl) T.b_isinstance boot_isinstance (pa_cons (pv 0) (pa_cons (pe_bltn (v := .ty "int") (by rfl) T.b_int boot_int rfl) pa_nil))) (pe_and (pe_cmpR op_eq (pe_callB call_isi (by rfl) T.b_isinstance boot_isinstance (pa_cons (pv 0) (pa_cons (pe_bltn (v := .ty "bool") (by rfl) T.b_bool boot_bool rfl) pa_nil))) (pe_callB call_isi (by rfl) T.b_isinstance boot_isinstance (pa_cons (pv 1) (pa_cons (pe_bltn (v := .ty "bool") (by rfl) T.b_bool boot_bool rfl) pa_nil))) (nomark _)) (pe_one (pe_cmpR (op_eqD hr.units) (pv 0) (pv 1) (nomark _)))))))))), ?_⟩
    cases hx with
    | int a =>
      cases hy
      refine ⟨_, rfl, _, _, _, _, _, rfl, .ty "dict", .base (.int _), kit_ty (by decide +kernel), false, rfl, iteF ?_⟩
      refine ⟨_, rfl, Evl.sz_of (by simp), fun p hp => ?_⟩
      have xp := ex_new (o := .tup [V.ty "tuple", V.ty "list"]) hp
      refine ⟨_, _, _, _, _, _, rfl, upd_same, cls2, .base (.int _), kAny (t := "int") false false (by decide +kernel) (by decide +kernel), _, rfl, iteF ?_⟩
      refine ⟨_, rfl, rfl, _, rfl, iteF ?_⟩
      refine ⟨_, rfl, _, _, _, _, _, rfl, .ty "str", .base (.int _), kit_ty (by decide +kernel), false, rfl, iteF ?_⟩
      refine ⟨_, rfl, _, _, _, _, _, rfl, .ty "int", .base (.int _), kit_ty (by decide +kernel), true, rfl, iteT ?_⟩
      refine ⟨_, rfl, _, _, _, _, _, rfl, .ty "bool", .base (.int _), kit_ty (r := false) (by decide +kernel), _, rfl, _, _, _, _, _, rfl, .ty "bool", .base (.int _), kit_ty (r := false) (by decide +kernel), rfl, _, rfl, iteT ?_⟩
      refine ⟨_, rfl, _, rfl, .int a, .int a, .int _, .int _, rfl, rfl, ?_⟩
      show Q (.bl (a == a)) _
      rw [beq_self_eq_true]
      exact q _ xp
    | str z =>
      cases hy
      refine ⟨_, rfl, _, _, _, _, _, rfl, .ty "dict", .base (.str _), kit_ty (by decide +kernel), false, rfl, iteF ?_⟩
      refine ⟨_, rfl, Evl.sz_of (by simp), fun p hp => ?_⟩
      have xp := ex_new (o := .tup [V.ty "tuple", V.ty "list"]) hp
      refine ⟨_, _, _, _, _, _, rfl, upd_same, cls2, .base (.str _), kAny (t := "str") false false (by decide +kernel) (by decide +kernel), _, rfl, iteF ?_⟩
      refine ⟨_, rfl, rfl, _, rfl, iteF ?_⟩
      refine ⟨_, rfl, _, _, _, _, _, rfl, .ty "str", .base (.str _), kit_ty (by decide +kernel), true, rfl, iteT ?_⟩
      refine ⟨_, rfl, _, rfl, .str z, .str z, .str _, .str _, shaped_str ld, shaped_str ld, _, rfl, ?_⟩
      refine ifB (fun _ => ?_) (fun e => absurd e (by show ¬ (z == z) = false; rw [beq_self_eq_true]; decide))
      refine ⟨_, rfl, _, _, _, _, _, rfl, .ty "str", .base (.str _), kit_ty (r := true) (by decide +kernel), _, rfl, _, _, _, _, _, rfl, .ty "str", .base (.str _), kit_ty (r := true) (by decide +kernel), rfl, ?_⟩
      exact q _ xp
    | _ => exact ld.elim
theorem ok_al1 (T : Tx w K mg) {n l : Nat} (ih : FnOk prg w K mg base CX0 l (ga K "_law_alike") (fdOf K (ga K "_law_alike")) ["_law_found", "_law_due"] (sp__law_alike K n)) : FnOk prg w K mg base CX0 (l + 1) (ga K "_law_alike") (fdOf K (ga K "_law_alike")) ["_law_found", "_law_due"] (sp__law_alike K (n + 1)) := by
  refine T.f__law_alike.ok sc__law_alike (fun vs H Q E h => ?_) (fun cdv A outer s H vs Q E hr h => ?_)
  · obtain ⟨x, y, d, rfl, _⟩ := h
    rfl
  · obtain ⟨x, y, d, rfl, hx, hy, ld, q⟩ := h
    refine ⟨_, PSs.nox (pss_cons (ps_if (pt_val (pe_callB call_isi (by rfl) T.b_isinstance boot_isinstance (pa_cons (pv 1) (pa_cons (pe_bltn (v := .ty "dict") (by rfl) T.b_dict boot_dict rfl) pa_nil)))) (pss_one (ps_never)) pss_nil)
      (pss_cons (ps_if (pt_val (pe_callB call_isiT (by rfl) T.b_isinstance boot_isinstance (pa_cons (pv 1) (pa_cons (pe_tup (pa_cons (pe_bltn (v := .ty "tuple") (by rfl) T.b_tuple boot_tuple rfl) (pa_cons (pe_bltn (v := .ty "list") (by rfl) T.b_list boot_list rfl) pa_nil))) pa_nil)))) (pss_cons (ps_if (PW.pt (pw_or (pt_not (pt_val (pe_callB call_isiT (by rfl) T.b_isinstance boot_isinstance (pa_cons (pv 0) (pa_cons (pe_tup (pa_cons (pe_bltn (v := .ty "tuple") (by rfl) T.b_tuple boot_tuple rfl) (pa_cons (pe_bltn (v := .ty "list") (by rfl) T.b_list boot_list rfl) pa_nil))) pa_nil))))) (pw_or1 (pt_cmpR op_ne (pe_callB call_isi (by rfl) T.b_isinstance boot_isinstance (pa_cons (pv 0) (pa_cons (pe_bltn (v := .ty "list") (by rfl) T.b_list boot_list rfl) pa_nil))) (pe_callB call_isi (by rfl) T.b_isinstance boot_isinstance (pa_cons (pv 1) (pa_cons (pe_bltn (v := .ty "list") (by rfl) T.b_list boot_list rfl) pa_nil))) (nomark _))))) (pss_one (ps_ret pe_bl)) pss_nil)
      (pss_cons (ps_if (pt_cmpR op_ne (pe_callB call_len_seq (by rfl) T.b_len PySem.boot_len (pa_cons (pv 0) pa_nil)) (pe_callB call_len_seq (by rfl) T.b_len PySem.boot_len (pa_cons (pv 1) pa_nil)) (nomark _)) (pss_one (ps_ret pe_bl)) pss_nil)
      (pss_one (ps_ret (pe_cmpR (op_eqD hr.units) (pe_lc (own := [("_law_k", 2)]) (g := gName 2) rfl sc__law_alike.nd (pi_range1 (by rfl) T.b_range (pa_cons (pe_callB call_len_seq (by rfl) T.b_len PySem.boot_len (pa_cons (pv 1) pa_nil)) pa_nil)) (blkOk_by (own := [("_law_k", 2)]) (N := ["_law_found", "_law_due", "_law_k"]) (sc := defScope s__law_alike) (by decide +kernel)) (fun _ _ _ _ _ => pg_name (i := 2) sc__law_alike.nd rfl (Or.inl rfl)) (fun _ _ _ _ _ => pts_one (pt_not (pt_val (pe_call ih (hr.mono (Nat.le_refl _)) (by rfl) T.g__law_alike T.f__law_alike.kp T.p__law_alike .nil pass0 (pa_cons (pe_ix (kIx (K := K) (r := rIxA) rfl ix_any) (pv 0) (pv 2) (fun _ _ => rfl)) (pa_cons (pe_ix (kIx (K := K) (r := rIxA) rfl ix_any) (pv 1) (pv 2) (fun _ _ => rfl)) pa_nil)))))) (fun _ _ _ _ _ => (pv 2))) (pe_lst pa_nil) (nomark _)))))) pss_nil)
      (pss_cons (ps_if (PW.pt (pw_or (pt_cmpR op_isN (pv 1) pe_non (nomark _)) (pw_or1 (pt_val (pe_callB call_isi (by rfl) T.b_isinstance boot_isinstance (pa_cons (pv 1) (pa_cons (pe_bltn (v := .ty "str") (by rfl) T.b_str boot_str rfl) pa_nil))))))) (pss_one (ps_ret (pe_and (pe_cmpR (op_eqD hr.units) (pv 0) (pv 1) (nomark _)) (pe_one (pe_cmpR op_eq (pe_callB call_isi (by rfl) T.b_isinstance boot_isinstance (pa_cons (pv 0) (pa_cons (pe_bltn (v := .ty "str") (by rfl) T.b_str boot_str rfl) pa_nil))) (pe_callB call_isi (by rfl) T.b_isinstance boot_isinstance (pa_cons (pv 1) (pa_cons (pe_bltn (v := .ty "str") (by rfl) T.b_str boot_str rfl) pa_nil))) (nomark _)))))) pss_nil)
      (pss_one (ps_ret (pe_and (pe_callB call_isi (by rfl) T.b_isinstance boot_isinstance (pa_cons (pv 0) (pa_cons (pe_bltn (v := .ty "int") (by rfl) T.b_int boot_int rfl) pa_nil))) (pe_and (pe_cmpR op_eq (pe_callB call_isi (by rfl) T.b_isinstance boot_isinstance (pa_cons (pv 0) (pa_cons (pe_bltn (v := .ty "bool") (by rfl) T.b_bool boot_bool rfl) pa_nil))) (pe_callB call_isi (by rfl) T.b_isinstance boot_isinstance (pa_cons (pv 1) (pa_cons (pe_bltn (v := .ty "bool") (by rfl) T.b_bool boot_bool rfl) pa_nil))) (nomark _)) (pe_one (pe_cmpR (op_eqD hr.units) (pv 0) (pv 1) (nomark _)))))))))), ?_⟩
    cases hx with
    | int a =>
      cases hy
      refine ⟨_, rfl, _, _, _, _, _, rfl, .ty "dict", .base (.int _), kit_ty (by decide +kernel), false, rfl, iteF ?_⟩
      refine ⟨_, rfl, Evl.sz_of (by simp), fun p hp => ?_⟩
      have xp := ex_new (o := .tup [V.ty "tuple", V.ty "list"]) hp
      refine ⟨_, _, _, _, _, _, rfl, upd_same, cls2, .base (.int _), kAny (t := "int") false false (by decide +kernel) (by decide +kernel), _, rfl, iteF ?_⟩
      refine ⟨_, rfl, rfl, _, rfl, iteF ?_⟩
      refine ⟨_, rfl, _, _, _, _, _, rfl, .ty "str", .base (.int _), kit_ty (by decide +kernel), false, rfl, iteF ?_⟩
      refine ⟨_, rfl, _, _, _, _, _, rfl, .ty "int", .base (.int _), kit_ty (by decide +kernel), true, rfl, iteT ?_⟩
      refine ⟨_, rfl, _, _, _, _, _, rfl, .ty "bool", .base (.int _), kit_ty (r := false) (by decide +kernel), _, rfl, _, _, _, _, _, rfl, .ty "bool", .base (.int _), kit_ty (r := false) (by decide +kernel), rfl, _, rfl, iteT ?_⟩
      refine ⟨_, rfl, _, rfl, .int a, .int a, .int _, .int _, rfl, rfl, ?_⟩
      show Q (.bl (a == a)) _
      rw [beq_self_eq_true]
      exact q _ xp
    | str z =>
      cases hy
      refine ⟨_, rfl, _, _, _, _, _, rfl, .ty "dict", .base (.str _), kit_ty (by decide +kernel), false, rfl, iteF ?_⟩
      refine ⟨_, rfl, Evl.sz_of (by simp), fun p hp => ?_⟩
      have xp := ex_new (o := .tup [V.ty "tuple", V.ty "list"]) hp
      refine ⟨_, _, _, _, _, _, rfl, upd_same, cls2, .base (.str _), kAny (t := "str") false false (by decide +kernel) (by decide +kernel), _, rfl, iteF ?_⟩
      refine ⟨_, rfl, rfl, _, rfl, iteF ?_⟩
      refine ⟨_, rfl, _, _, _, _, _, rfl, .ty "str", .base (.str _), kit_ty (by decide +kernel), true, rfl, iteT ?_⟩
      refine ⟨_, rfl, _, rfl, .str z, .str z, .str _, .str _, shaped_str ld, shaped_str ld, _, rfl, ?_⟩
      refine ifB (fun _ => ?_) (fun e => absurd e (by show ¬ (z == z) = false; rw [beq_self_eq_true]; decide))
      refine ⟨_, rfl, _, _, _, _, _, rfl, .ty "str", .base (.str _), kit_ty (r := true) (by decide +kernel), _, rfl, _, _, _, _, _, rfl, .ty "str", .base (.str _), kit_ty (r := true) (by decide +kernel), rfl, ?_⟩
      exact q _ xp
    | tup hs1 ha1 =>
      cases hy with
      | tup hs2 ha2 =>
        rename_i a1 xs1 ds a2 xs2
        obtain ⟨hz, hall⟩ : ds.length ≤ 1000 ∧ ∀ d ∈ ds, lawD n d := ld
        have l1 := dps_len ha1
        have l2 := dps_len ha2
        refine ⟨_, rfl, _, _, _, _, _, rfl, .ty "dict", ty_sq hs2, kit_ty (by decide +kernel), false, rfl, iteF ?_⟩
        refine ⟨_, rfl, Evl.sz_of (by simp), fun p hp => ?_⟩
        have xp := ex_new (o := .tup [V.ty "tuple", V.ty "list"]) hp
        refine ⟨_, _, _, _, _, _, rfl, upd_same, cls2, ty_sq (Evl.ex_t xp hs2), kAny (t := "tuple") true false (by decide +kernel) (by decide +kernel), _, rfl, iteT ?_⟩
        generalize upd H p (.tup [V.ty "tuple", V.ty "list"]) = G1 at xp ⊢
        refine ⟨_, rfl, Evl.sz_of (by simp), fun p hp => ?_⟩
        have xp2 := ex_new (o := .tup [V.ty "tuple", V.ty "list"]) hp
        refine ⟨_, _, _, _, _, _, rfl, upd_same, cls2, ty_sq (Evl.ex_t (xp.trans xp2) hs1), kAny (t := "tuple") true false (by decide +kernel) (by decide +kernel), _, rfl, iteF ?_⟩
        have xx := xp.trans xp2
        generalize upd G1 p (.tup [V.ty "tuple", V.ty "list"]) = G2 at xx ⊢
        refine ⟨_, rfl, _, _, _, _, _, rfl, .ty "list", ty_sq (Evl.ex_t xx hs1), kit_ty (r := false) (by decide +kernel), _, rfl, _, _, _, _, _, rfl, .ty "list", ty_sq (Evl.ex_t xx hs2), kit_ty (r := false) (by decide +kernel), rfl, _, rfl, iteF ?_⟩
        refine ⟨_, rfl, _, _, rfl, .inr (Evl.ex_t xx hs1), _, rfl, _, _, rfl, .inr (Evl.ex_t xx hs2), rfl, _, rfl, ?_⟩
        rw [l1, l2]
        refine ifB (fun e => absurd e (by show ¬ (!decide (V.int (ds.length : Int) = V.int (ds.length : Int))) = true; rw [decide_eq_true rfl]; decide)) (fun _ => ?_)
        refine ⟨_, rfl, _, _, rfl, .inr (Evl.ex_t xx hs2), ?_⟩
        rw [l2]
        refine ⟨_, rfl, by omega, by omega, fun D hD => lcRc (K := K) (fun _ => false) hD (by omega) (fun _ => rfl) rfl (fun i H3 Pt hi x3 hp3 => ?_) ?_⟩
        · obtain ⟨d, hdi⟩ : ∃ d, ds[i]? = some d := ⟨_, List.getElem?_eq_getElem (by omega)⟩
          obtain ⟨v1, e1, d1⟩ := dps_at ha1 hdi
          obtain ⟨v2, e2, d2⟩ := dps_at ha2 hdi
          have x03 := xx.trans x3
          have ix : ∀ {xs : List V} {v : V}, xs[i]? = some v → atI xs (0 + (i : Int)) = some v := fun {xs v} e => by
            rw [Int.zero_add]
            exact atI_nat e
          exact ⟨_, rfl, _, rfl, .inr ⟨_, _, _, _, rfl, rfl, Evl.ex_t x03 hs1, ix e1, _, rfl, _, rfl, .inr ⟨_, _, _, _, rfl, rfl, Evl.ex_t x03 hs2, ix e2, _, _, d, rfl, dp_ex x03 d1, dp_ex x03 d2, hall d (List.mem_of_getElem? hdi), fun H' x' => ⟨_, rfl, hp3 H' x'⟩⟩⟩⟩
        · intro H4 x4 hn4
          refine ⟨by decide, fun p4 hp4 => nil_eq (hn4.ex (ex_new hp4)) upd_same ?_⟩
          rw [filter_noneI]
          have ea : ∀ l : List Int, (l.all fun _ => !false) = true := fun l => List.all_eq_true.mpr fun _ _ => rfl
          rw [ea]
          exact q _ ((xx.trans x4).trans (ex_new hp4))
    | lst hs1 ha1 =>
      cases hy with
      | lst hs2 ha2 =>
        rename_i a1 xs1 ds a2 xs2
        obtain ⟨hz, hall⟩ : ds.length ≤ 1000 ∧ ∀ d ∈ ds, lawD n d := ld
        have l1 := dps_len ha1
        have l2 := dps_len ha2
        refine ⟨_, rfl, _, _, _, _, _, rfl, .ty "dict", ty_sl hs2, kit_ty (by decide +kernel), false, rfl, iteF ?_⟩
        refine ⟨_, rfl, Evl.sz_of (by simp), fun p hp => ?_⟩
        have xp := ex_new (o := .tup [V.ty "tuple", V.ty "list"]) hp
        refine ⟨_, _, _, _, _, _, rfl, upd_same, cls2, ty_sl (Evl.ex_l xp hs2), kAny (t := "list") false true (by decide +kernel) (by decide +kernel), _, rfl, iteT ?_⟩
        generalize upd H p (.tup [V.ty "tuple", V.ty "list"]) = G1 at xp ⊢
        refine ⟨_, rfl, Evl.sz_of (by simp), fun p hp => ?_⟩
        have xp2 := ex_new (o := .tup [V.ty "tuple", V.ty "list"]) hp
        refine ⟨_, _, _, _, _, _, rfl, upd_same, cls2, ty_sl (Evl.ex_l (xp.trans xp2) hs1), kAny (t := "list") false true (by decide +kernel) (by decide +kernel), _, rfl, iteF ?_⟩
        have xx := xp.trans xp2
        generalize upd G1 p (.tup [V.ty "tuple", V.ty "list"]) = G2 at xx ⊢
        refine ⟨_, rfl, _, _, _, _, _, rfl, .ty "list", ty_sl (Evl.ex_l xx hs1), kit_ty (r := true) (by decide +kernel), _, rfl, _, _, _, _, _, rfl, .ty "list", ty_sl (Evl.ex_l xx hs2), kit_ty (r := true) (by decide +kernel), rfl, _, rfl, iteF ?_⟩
        refine ⟨_, rfl, _, _, rfl, .inl (Evl.ex_l xx hs1), _, rfl, _, _, rfl, .inl (Evl.ex_l xx hs2), rfl, _, rfl, ?_⟩
        rw [l1, l2]
        refine ifB (fun e => absurd e (by show ¬ (!decide (V.int (ds.length : Int) = V.int (ds.length : Int))) = true; rw [decide_eq_true rfl]; decide)) (fun _ => ?_)
        refine ⟨_, rfl, _, _, rfl, .inl (Evl.ex_l xx hs2), ?_⟩
        rw [l2]
        refine ⟨_, rfl, by omega, by omega, fun D hD => lcRc (K := K) (fun _ => false) hD (by omega) (fun _ => rfl) rfl (fun i H3 Pt hi x3 hp3 => ?_) ?_⟩
        · obtain ⟨d, hdi⟩ : ∃ d, ds[i]? = some d := ⟨_, List.getElem?_eq_getElem (by omega)⟩
          obtain ⟨v1, e1, d1⟩ := dps_at ha1 hdi
          obtain ⟨v2, e2, d2⟩ := dps_at ha2 hdi
          have x03 := xx.trans x3
          have ix : ∀ {xs : List V} {v : V}, xs[i]? = some v → atI xs (0 + (i : Int)) = some v := fun {xs v} e => by
            rw [Int.zero_add]
            exact atI_nat e
          exact ⟨_, rfl, _, rfl, .inl ⟨_, _, _, _, rfl, rfl, Evl.ex_l x03 hs1, ix e1, _, rfl, _, rfl, .inl ⟨_, _, _, _, rfl, rfl, Evl.ex_l x03 hs2, ix e2, _, _, d, rfl, dp_ex x03 d1, dp_ex x03 d2, hall d (List.mem_of_getElem? hdi), fun H' x' => ⟨_, rfl, hp3 H' x'⟩⟩⟩⟩
        · intro H4 x4 hn4
          refine ⟨by decide, fun p4 hp4 => nil_eq (hn4.ex (ex_new hp4)) upd_same ?_⟩
          rw [filter_noneI]
          have ea : ∀ l : List Int, (l.all fun _ => !false) = true := fun l => List.all_eq_true.mpr fun _ _ => rfl
          rw [ea]
          exact q _ ((xx.trans x4).trans (ex_new hp4))
    | _ => exact ld.elim
theorem ok_al (T : Tx w K mg) : ∀ n, FnOk prg w K mg base CX0 (n + 1) (ga K "_law_alike") (fdOf K (ga K "_law_alike")) ["_law_found", "_law_due"] (sp__law_alike K n)
  | 0 => ok_al0 T
  | n + 1 => ok_al1 T (ok_al T n)
end
end Om
end PartB8
section PartC1
set_option Elab.async false
set_option linter.all false
set_option maxRecDepth 100000
set_option maxHeartbeats 400000
namespace Om
open PySem PySem.Spec PyProof.Rows L2 He TL
/-- the drawing's state: a list of a number, the list of a script's numbers, a number -/
def HX (H : Hp) (ha la : Addr) : Prop := ∃ (s c : Int) (cs : List Int), H ha = some (.lst [.int s, .ref la, .int c]) ∧ H la = some (.lst (cs.map V.int)) ∧ cs.length ≤ 63
theorem HX.ne {H : Hp} {ha la : Addr} (h : HX H ha la) : la ≠ ha := by
  obtain ⟨s, c, cs, h1, h2, _⟩ := h
  intro e
  rw [e, h1] at h2
  injection h2 with h2
  injection h2 with h2
  cases cs with
  | nil => cases h2
  | cons a r =>
    cases r with
    | nil => cases h2
    | cons b r =>
      injection h2 with _ h2
      injection h2 with h2
      cases h2
theorem HX.ex {H H' : Hp} {ha la : Addr} (h : HX H ha la) (x : Ex H H') : HX H' ha la := by
  obtain ⟨s, c, cs, h1, h2, h3⟩ := h
  exact ⟨s, c, cs, x _ _ h1, x _ _ h2, h3⟩
section
variable {w : World} {K : Frg} {mg : Str → Option Value} {base : Heap}
/-- _law_mix -/
def sp__law_mix (K : Frg) : Sp := fun vs H Q _ => ∃ (a : Addr) (ns : List Int) (s : Int), vs = [.ref a, .int s] ∧ SqL K H a (ns.map V.int) ∧ ns.length ≤ 63 ∧ ∀ ha la H', Ex H H' → HX H' ha la → Q (.ref ha) H'
theorem sc__law_mix : FnScope ["_law_script", "_law_seed", "_law_state", "_law_cell"] ["_law_script", "_law_seed"] (defScope s__law_mix) := ⟨rfl, rfl, rfl, by decide +kernel, rfl, by decide +kernel, by decide +kernel⟩
theorem ok__law_mix (T : Tx w K mg) : FnOk prg w K mg base CX0 1 (ga K "_law_mix") (fdOf K (ga K "_law_mix")) ["_law_script", "_law_seed"] (sp__law_mix K) := by
  refine T.f__law_mix.ok sc__law_mix (fun vs H Q E h => ?_) (fun cdv A outer s H vs Q E hr h => ?_)
  · obtain ⟨a, ns, s0, rfl, _⟩ := h
    rfl
  · obtain ⟨a, ns, s0, rfl, hs, hz, q⟩ := h
    refine ⟨_, PSs.nox (pss_cons (ps_set (i := 2) sc__law_mix.nd rfl (Or.inl rfl) (pv 1))
      (pss_cons (ps_for PassesOwn.never rfl (pi_list (pv 0)) (pg_name (i := 3) sc__law_mix.nd rfl (Or.inl rfl)) (pss_one (ps_set (i := 2) sc__law_mix.nd rfl (Or.inl rfl) (pe_op op_mod (pe_callTy call_int1 (by rfl) T.b_int boot_int (pa_cons (pe_op op_add (pe_op op_add (pe_op op_mul (pv 2) pe_int) (pe_op op_mod (pe_callTy call_int1 (by rfl) T.b_int boot_int (pa_cons (pv 3) pa_nil)) pe_int)) pe_int) pa_nil)) pe_int))))
      (pss_one (ps_ret (pe_lst (pa_cons (pv 2) (pa_cons (pe_callTy call_list_of (by rfl) T.b_list boot_list (pa_cons (pv 0) pa_nil)) (pa_cons pe_int pa_nil)))))))), ?_⟩
    refine ⟨_, rfl, _, rfl, a, rfl, ⟨_, hs⟩, ?_⟩
    refine for_it (walk_list (K := K) (a := a) (xs := ns.map V.int)) (fun i σ H' => ∃ (st : Int) (o : Option V), σ = [some (.ref a), some (.int s0), some (.int st), o] ∧ H' = H) ⟨s0, none, rfl, rfl⟩ (fun i σ H' _ hP => ?_) ?_ ?_
    · obtain ⟨_, _, _, rfl⟩ := hP
      exact hs
    · rintro i x σ Hz H' hi ⟨st, o, rfl, rfl⟩ ⟨rfl, hx⟩
      rw [List.getElem?_map, Option.map_eq_some_iff] at hx
      obtain ⟨n, _, rfl⟩ := hx
      exact ⟨_, rfl, _, _, rfl, rfl, .inr ⟨by decide, by decide⟩, _, rfl, .inl ⟨_, rfl, _, _, rfl, rfl, by show (0 : Int) < 2147483629; decide, _, _, rfl, rfl, _, _, rfl, rfl, .inl ⟨_, rfl, _, _, rfl, rfl, by show (0 : Int) < 2147483647; decide, _, _, rfl, rfl⟩⟩⟩
    · rintro σ H' ⟨st, o, rfl, rfl⟩
      refine ⟨_, rfl, _, rfl, a, _, rfl, .inl hs, fun l hl => ⟨Evl.sz_of (by simp), fun p hp => q p l _ ((ex_new hl).trans (ex_new hp)) ⟨st, 0, ns, upd_same, ex_new hp _ _ upd_same, hz⟩⟩⟩
/-- _law_next -/
def sp__law_next : Sp := fun vs H Q _ => ∃ (ha la : Addr) (lim : Int), vs = [.ref ha, .int lim] ∧ HX H ha la ∧ 1 ≤ lim ∧ lim ≤ 1000 ∧ ∀ v H', 0 ≤ v → v < lim → Ky [ha, la] H H' → HX H' ha la → Q (.int v) H'
theorem sc__law_next : FnScope ["_law_h", "_law_limit", "_law_cell"] ["_law_h", "_law_limit"] (defScope s__law_next) := ⟨rfl, rfl, rfl, by decide +kernel, rfl, by decide +kernel, by decide +kernel⟩
theorem ok__law_next (T : Tx w K mg) : FnOk prg w K mg base CX0 1 (ga K "_law_next") (fdOf K (ga K "_law_next")) ["_law_h", "_law_limit"] sp__law_next := by
  refine T.f__law_next.ok sc__law_next (fun vs H Q E h => ?_) (fun cdv A outer s H vs Q E hr h => ?_)
  · obtain ⟨ha, la, lim, rfl, _⟩ := h
    rfl
  · obtain ⟨ha, la, lim, rfl, hx, l1, l2, q⟩ := h
    refine ⟨_, PSs.nox (pss_cons (ps_set (i := 2) sc__law_next.nd rfl (Or.inl rfl) (pe_ix ix_list (pe_op op_cat (pe_ix ix_list (pv 0) pe_int (fun _ _ => rfl)) (pe_lst (pa_cons pe_int pa_nil))) (pe_op op_mod (pe_callTy call_int1 (by rfl) T.b_int boot_int (pa_cons (pe_ix ix_list (pv 0) pe_int (fun _ _ => rfl)) pa_nil)) (pe_callB (call_max2 rfl) (by rfl) T.b_max (by decide +kernel) (pa_cons pe_int (pa_cons (pe_callB call_len_seq (by rfl) T.b_len PySem.boot_len (pa_cons (pe_ix ix_list (pv 0) pe_int (fun _ _ => rfl)) pa_nil)) pa_nil)))) (fun _ _ => rfl)))
      (pss_cons (ps_if (pt_cmpR op_ge (pv 2) (pe_op op_pow pe_int pe_int) (nomark _)) (pss_cons (ps_asg (pe_op op_fdiv (pv 2) (pv 1)) (pg_sub (pe_ix ix_list (pv 0) pe_int (fun _ _ => rfl)) (pe_op op_mod (pe_callTy call_int1 (by rfl) T.b_int boot_int (pa_cons (pe_ix ix_list (pv 0) pe_int (fun _ _ => rfl)) pa_nil)) (pe_callB call_len_seq (by rfl) T.b_len PySem.boot_len (pa_cons (pe_ix ix_list (pv 0) pe_int (fun _ _ => rfl)) pa_nil))) set_list))
      (pss_one (ps_ret (pe_op op_mod (pe_callTy call_int1 (by rfl) T.b_int boot_int (pa_cons (pv 2) pa_nil)) (pv 1))))) pss_nil)
      (pss_cons (ps_asg (pe_op op_mod (pe_callTy call_int1 (by rfl) T.b_int boot_int (pa_cons (pe_op op_add (pe_op op_add (pe_op op_mul (pe_ix ix_list (pv 0) pe_int (fun _ _ => rfl)) pe_int) (pe_op op_mul (pv 2) pe_int)) pe_int) pa_nil)) pe_int) (pg_sub (pv 0) pe_int set_list))
      (pss_cons (ps_asg (pe_op op_add (pe_ix ix_list (pv 0) pe_int (fun _ _ => rfl)) pe_int) (pg_sub (pv 0) pe_int set_list))
      (pss_one (ps_ret (pe_op op_mod (pe_callTy call_int1 (by rfl) T.b_int boot_int (pa_cons (pe_op op_fdiv (pe_ix ix_list (pv 0) pe_int (fun _ _ => rfl)) pe_int) pa_nil)) (pv 1)))))))), ?_⟩
    obtain ⟨s0, c0, cs, h1, h2, h3⟩ := hx
    have hne := HX.ne ⟨s0, c0, cs, h1, h2, h3⟩
    refine ⟨_, rfl, ha, _, 1, _, rfl, rfl, .of h1, rfl, Evl.sz_of (by simp), fun p hp => ?_⟩
    have x1 := ex_new (o := .lst [V.int 0]) hp
    refine ⟨la, p, _, _, rfl, rfl, x1 _ _ h2, upd_same, Evl.sz_of (by rw [List.length_map]; simp; omega), fun r hr => ?_⟩
    have ez : cs.map V.int ++ [V.int 0] = (cs ++ [0]).map V.int := by rw [List.map_append]; rfl
    rw [ez]
    have x2 := x1.trans (ex_new (o := .lst ((cs ++ [0]).map V.int)) hr)
    have hr2 : upd (upd H p (.lst [V.int 0])) r (.lst ((cs ++ [0]).map V.int)) r = some (.lst ((cs ++ [0]).map V.int)) := upd_same
    generalize upd (upd H p (.lst [V.int 0])) r (.lst ((cs ++ [0]).map V.int)) = H1 at x2 hr2 ⊢
    have g1 := x2 _ _ h1
    have g2 := x2 _ _ h2
    refine ⟨_, rfl, ha, _, 2, _, rfl, rfl, .of g1, rfl, .inl ⟨_, rfl, _, rfl, ha, _, 1, _, rfl, rfl, .of g1, rfl, la, _, rfl, .inl (.of g2), _, _, rfl, ?_⟩⟩
    rw [List.length_map]
    obtain ⟨mm, em⟩ : ∃ mm : Int, mm = (if (cs.length : Int) > 1 then (cs.length : Int) else 1) := ⟨_, rfl⟩
    rw [← em]
    have m1 : 1 ≤ mm := by rw [em]; split <;> omega
    have m2 : mm ≤ (cs.length : Int) + 1 := by rw [em]; split <;> omega
    have m3 : 1 ≤ cs.length → mm = (cs.length : Int) := fun h => by rw [em]; split <;> omega
    have j0 := Int.emod_nonneg c0 (show mm ≠ 0 by omega)
    have j1 := Int.emod_lt_of_pos c0 (show 0 < mm by omega)
    obtain ⟨j, ej⟩ : ∃ j : Nat, (j : Int) = c0 % mm := ⟨(c0 % mm).toNat, by omega⟩
    have jl : j < (cs ++ [0]).length := by rw [List.length_append]; simp; omega
    obtain ⟨cell, ecell⟩ : ∃ cell, (cs ++ [0])[j]? = some cell := ⟨_, List.getElem?_eq_getElem jl⟩
    have cl : cell ≠ 0 → j < cs.length := fun h => by
      by_cases q : j < cs.length
      · exact q
      · rw [List.getElem?_append_right (by omega)] at ecell
        have e0 : j - cs.length = 0 := by
          rw [List.length_append] at jl
          simp at jl
          omega
        rw [e0] at ecell
        cases ecell
        exact absurd rfl h
    refine ⟨_, _, rfl, rfl, by omega, r, _, _, .int cell, rfl, rfl, .of hr2, by rw [← ej]; exact atI_nat (by rw [List.getElem?_map, ecell]; rfl), ?_⟩
    refine ⟨_, rfl, _, _, rfl, rfl, ⟨by decide, by decide, by decide⟩, _, _, rfl, rfl, _, rfl, ?_⟩
    refine ifB (fun e => ?_) (fun e => ?_)
    · have big := of_decide_eq_true e
      have cpos : 0 < cell := Int.lt_of_lt_of_le (by decide) big
      have jc := cl (by omega)
      have em2 := m3 (by omega)
      refine ⟨_, rfl, _, rfl, _, _, rfl, rfl, ⟨by omega, by omega⟩, _, rfl, ha, _, 1, _, rfl, rfl, .of g1, rfl, _, rfl, ha, _, 2, _, rfl, rfl, .of g1, rfl, .inl ⟨_, rfl, _, rfl, ha, _, 1, _, rfl, rfl, .of g1, rfl, la, _, rfl, .inl (.of g2), ?_⟩⟩
      rw [List.length_map, ← em2]
      refine ⟨_, _, rfl, rfl, by omega, la, _, _, j, rfl, rfl, g2, by rw [← ej]; unfold ixN; rw [List.length_map, if_pos (by omega), if_pos (by omega)]; simp, ?_⟩
      have k1 : Ky [ha, la] H1 (upd H1 la (.lst ((cs.map V.int).set j (.int (cell / lim))))) := Ky.put (by simp) (rd_lst g2)
      have hx3 : HX (upd H1 la (.lst ((cs.map V.int).set j (.int (cell / lim))))) ha la := ⟨s0, c0, cs.set j (cell / lim), by rw [upd_ne hne.symm]; exact g1, by rw [List.map_set]; exact upd_same, by rw [List.length_set]; exact h3⟩
      refine ⟨_, rfl, .inl ⟨_, rfl, _, rfl, _, _, rfl, rfl, by omega, ?_⟩⟩
      exact q _ _ (Int.emod_nonneg _ (by omega)) (Int.emod_lt_of_pos _ (by omega)) ((Ky.of x2).trans k1) hx3
    · refine ⟨_, rfl, ha, _, 0, _, rfl, rfl, .of g1, rfl, _, _, rfl, rfl, .inr ⟨by decide, by decide⟩, _, rfl, _, _, rfl, rfl, .inr ⟨by decide, by decide⟩, _, _, rfl, rfl, _, _, rfl, rfl, .inl ⟨_, rfl, _, _, rfl, rfl, by show (0 : Int) < 2147483647; decide, _, rfl, ?_⟩⟩
      refine ⟨ha, _, 0, 0, rfl, rfl, g1, rfl, ?_⟩
      dsimp only
      generalize ((s0 * 48271 + cell * 69621 + 11) % 2147483647) = s1
      have k1 : Ky [ha, la] H1 (upd H1 ha (.lst ([V.int s0, V.ref la, V.int c0].set 0 (.int s1)))) := Ky.put (by simp) (rd_lst g1)
      have g3 : upd H1 ha (.lst ([V.int s0, V.ref la, V.int c0].set 0 (.int s1))) ha = some (.lst [V.int s1, V.ref la, V.int c0]) := upd_same
      have g4 : upd H1 ha (.lst ([V.int s0, V.ref la, V.int c0].set 0 (.int s1))) la = some (.lst (cs.map V.int)) := by rw [upd_ne hne]; exact g2
      generalize upd H1 ha (.lst ([V.int s0, V.ref la, V.int c0].set 0 (.int s1))) = H2 at k1 g3 g4 ⊢
      refine ⟨_, rfl, ha, _, 2, _, rfl, rfl, .of g3, rfl, _, _, rfl, rfl, _, rfl, ha, _, 2, 2, rfl, rfl, g3, rfl, ?_⟩
      dsimp only
      have k2 : Ky [ha, la] H2 (upd H2 ha (.lst ([V.int s1, V.ref la, V.int c0].set 2 (.int (c0 + 1))))) := Ky.put (by simp) (rd_lst g3)
      have g5 : upd H2 ha (.lst ([V.int s1, V.ref la, V.int c0].set 2 (.int (c0 + 1)))) ha = some (.lst [V.int s1, V.ref la, V.int (c0 + 1)]) := upd_same
      have g6 : upd H2 ha (.lst ([V.int s1, V.ref la, V.int c0].set 2 (.int (c0 + 1)))) la = some (.lst (cs.map V.int)) := by rw [upd_ne hne]; exact g4
      generalize upd H2 ha (.lst ([V.int s1, V.ref la, V.int c0].set 2 (.int (c0 + 1)))) = H3 at k2 g5 g6 ⊢
      refine ⟨_, rfl, ha, _, 0, _, rfl, rfl, .of g5, rfl, _, _, rfl, rfl, ⟨by decide, by decide⟩, .inl ⟨_, rfl, _, rfl, _, _, rfl, rfl, by omega, ?_⟩⟩
      exact q _ _ (Int.emod_nonneg _ (by omega)) (Int.emod_lt_of_pos _ (by omega)) (((Ky.of x2).trans k1).trans k2) ⟨s1, c0 + 1, cs, g5, g6, h3⟩
end
end Om
end PartC1
section PartC2
set_option Elab.async false
set_option linter.all false
set_option maxRecDepth 100000
set_option maxHeartbeats 400000
namespace Om
open PySem PySem.Spec PyProof.Rows L2 He TL
/-- the signs that are drawn -/
def gsn : List Nat := [46, 126, 65, 66, 84]
structure RowsOk (rows : List Str) (wd : Nat) : Prop where
  hi : 1 ≤ rows.length ∧ rows.length ≤ 4
  wi : 1 ≤ wd ∧ wd ≤ 4
  len : ∀ r ∈ rows, (tl r).length = wd
  sg : ∀ r ∈ rows, ∀ c ∈ tl r, c ∈ gsn
/-- the sign at a cell -/
def signAt (rows : List Str) (i j : Int) : Nat := if 0 ≤ i ∧ i < rows.length ∧ 0 ≤ j ∧ j < ((tl (rows.headD Str.empty)).length : Int) then (tl (rows.getD i.toNat Str.empty)).getD j.toNat 126 else 126
def oneS (c : Nat) : Str := ⟨#[c]⟩
section
variable {w : World} {K : Frg} {mg : Str → Option Value} {base : Heap}
/-- _law_sign -/
def sp__law_sign (K : Frg) : Sp := fun vs H Q _ => ∃ (ra ca : Addr) (rows : List Str) (wd : Nat) (i j : Int) (r : List V), vs = [.ref ra, .ref ca] ∧ SqT K H ra (rows.map V.str) ∧ RowsOk rows wd ∧ SqT K H ca (.int i :: .int j :: r) ∧ Q (.str (oneS (signAt rows i j))) H
theorem sc__law_sign : FnScope ["_law_rows_here", "_law_cell"] ["_law_rows_here", "_law_cell"] (defScope s__law_sign) := ⟨rfl, rfl, rfl, by decide +kernel, rfl, by decide +kernel, by decide +kernel⟩
theorem ok__law_sign (T : Tx w K mg) : FnOk prg w K mg base CX0 1 (ga K "_law_sign") (fdOf K (ga K "_law_sign")) ["_law_rows_here", "_law_cell"] (sp__law_sign K) := by
  refine T.f__law_sign.ok sc__law_sign (fun vs H Q E h => ?_) (fun cdv A outer s H vs Q E hr h => ?_)
  · obtain ⟨ra, ca, rows, wd, i, j, r, rfl, _⟩ := h
    rfl
  · obtain ⟨ra, ca, rows, wd, i, j, r, rfl, hr0, ok, hc, q⟩ := h
    refine ⟨_, PSs.nox (pss_cons (ps_if (PW.pt (pw_or (pt_not (pt_chain op_le op_lt pe_int (pe_ix ix_tup (pv 1) pe_int (fun _ _ => rfl)) (pe_callB call_len_seq (by rfl) T.b_len PySem.boot_len (pa_cons (pv 0) pa_nil)))) (pw_or1 (pt_not (pt_chain op_le op_lt pe_int (pe_ix ix_tup (pv 1) pe_int (fun _ _ => rfl)) (pe_callB call_len_str (by rfl) T.b_len PySem.boot_len (pa_cons (pe_ix ix_tup (pv 0) pe_int (fun _ _ => rfl)) pa_nil))))))) (pss_one (ps_ret pe_str)) pss_nil)
      (pss_one (ps_ret (pe_ix ix_str (pe_ix ix_tup (pv 0) (pe_ix ix_tup (pv 1) pe_int (fun _ _ => rfl)) (fun _ _ => rfl)) (pe_ix ix_tup (pv 1) pe_int (fun _ _ => rfl)) (fun _ _ => rfl))))), ?_⟩
    have q' : signAt rows i j = 126 → Q (.str "~") H := fun e => by
      rw [e] at q
      exact q
    obtain ⟨r0, rr, hrr⟩ : ∃ r0 rr, rows = r0 :: rr := by
      cases rows with
      | nil => exact absurd ok.hi.1 (by simp)
      | cons a r => exact ⟨a, r, rfl⟩
    have szw : ∀ r ∈ rows, r.length ≤ sizeLine := fun r hr => Evl.sz_of (by rw [len_tl, ok.len r hr]; have := ok.wi; omega)
    have h0 : atI (rows.map V.str) ((0 : Nat) : Int) = some (.str r0) := atI_nat (by rw [hrr]; rfl)
    refine ⟨_, rfl, ca, _, 0, .int i, rfl, rfl, hc, atI_nat (j := 0) rfl, _, _, rfl, rfl, _, rfl, ?_⟩
    refine ifB (fun e1 => ?_) (fun e1 => ?_)
    · have e1 := of_decide_eq_true e1
      refine ⟨_, rfl, ra, _, rfl, .inr hr0, _, _, rfl, rfl, _, rfl, ?_⟩
      rw [List.length_map]
      refine ifB (fun e2 => ?_) (fun e2 => ?_)
      · have e2 : ¬ i < (rows.length : Int) := of_decide_eq_false (by simpa using e2)
        refine q' ?_
        unfold signAt
        rw [if_neg (by omega)]
      · have e2 : i < (rows.length : Int) := of_decide_eq_true (by simpa using e2)
        refine ⟨_, rfl, ca, _, 1, .int j, rfl, rfl, hc, atI_nat (j := 1) rfl, _, _, rfl, rfl, _, rfl, ?_⟩
        refine ifB (fun e3 => ?_) (fun e3 => ?_)
        · have e3 := of_decide_eq_true e3
          refine ⟨_, rfl, ra, _, 0, .str r0, rfl, rfl, hr0, h0, r0, rfl, szw r0 (by rw [hrr]; exact .head _), _, _, rfl, rfl, _, rfl, ?_⟩
          have el : (r0.length : Int) = ((tl (rows.headD Str.empty)).length : Int) := by rw [hrr, len_tl]; rfl
          refine ifB (fun e4 => ?_) (fun e4 => ?_)
          · have e4 : ¬ j < (r0.length : Int) := of_decide_eq_false (by simpa using e4)
            refine q' ?_
            unfold signAt
            rw [if_neg (by rw [← el]; omega)]
          · have e4 : j < (r0.length : Int) := of_decide_eq_true (by simpa using e4)
            obtain ⟨ni, eni⟩ : ∃ n : Nat, (n : Int) = i := ⟨i.toNat, by omega⟩
            obtain ⟨nj, enj⟩ : ∃ n : Nat, (n : Int) = j := ⟨j.toNat, by omega⟩
            obtain ⟨ri, hri⟩ : ∃ ri, rows[ni]? = some ri := ⟨_, List.getElem?_eq_getElem (by omega)⟩
            have hrm := List.mem_of_getElem? hri
            have lr0 := ok.len r0 (by rw [hrr]; exact .head _)
            have lri := ok.len ri hrm
            obtain ⟨c, hcj⟩ : ∃ c, (tl ri)[nj]? = some c := ⟨_, List.getElem?_eq_getElem (by rw [lri, ← lr0, ← len_tl]; omega)⟩
            refine ⟨_, rfl, _, rfl, ca, _, 0, .int i, rfl, rfl, hc, atI_nat (j := 0) rfl, ra, _, _, .str ri, rfl, rfl, hr0, by rw [← eni]; exact atI_nat (by rw [List.getElem?_map, hri]; rfl), _, rfl, ca, _, 1, .int j, rfl, rfl, hc, atI_nat (j := 1) rfl, ri, _, c, rfl, rfl, szw ri hrm, by rw [← enj]; exact atI_nat hcj, ?_⟩
            have es : signAt rows i j = c := by
              unfold signAt
              have eg : rows.getD ni Str.empty = ri := by
                rw [List.getD_eq_getElem?_getD, hri]
                rfl
              rw [if_pos ⟨e1, e2, e3, by rw [← el]; exact e4⟩, ← eni, ← enj, Int.toNat_natCast, Int.toNat_natCast, eg, List.getD_eq_getElem?_getD, hcj]
              rfl
            rw [es] at q
            exact q
        · have e3 := of_decide_eq_false e3
          refine ⟨_, rfl, iteT (q' ?_)⟩
          unfold signAt
          rw [if_neg (by omega)]
    · have e1 := of_decide_eq_false e1
      refine ⟨_, rfl, iteT (q' ?_)⟩
      unfold signAt
      rw [if_neg (by omega)]
/-- a step's way -/
def dI (f : Int) : Int := if f % 4 = 0 then -1 else if f % 4 = 2 then 1 else 0
def dJ (f : Int) : Int := if f % 4 = 1 then 1 else if f % 4 = 3 then -1 else 0
/-- _law_on -/
def sp__law_on (K : Frg) : Sp := fun vs H Q _ => ∃ (ca : Addr) (i j f : Int) (r : List V), vs = [.ref ca, .int f] ∧ SqT K H ca (.int i :: .int j :: r) ∧ ∀ p H', Ex H H' → SqT K H' p [.int (i + dI f), .int (j + dJ f)] → Q (.ref p) H'
theorem sc__law_on : FnScope ["_law_cell", "_law_facing", "_law_down", "_law_right"] ["_law_cell", "_law_facing"] (defScope s__law_on) := ⟨rfl, rfl, rfl, by decide +kernel, rfl, by decide +kernel, by decide +kernel⟩
theorem ok__law_on (T : Tx w K mg) : FnOk prg w K mg base CX0 1 (ga K "_law_on") (fdOf K (ga K "_law_on")) ["_law_cell", "_law_facing"] (sp__law_on K) := by
  refine T.f__law_on.ok sc__law_on (fun vs H Q E h => ?_) (fun cdv A outer s H vs Q E hr h => ?_)
  · obtain ⟨ca, i, j, f, r, rfl, _⟩ := h
    rfl
  · obtain ⟨ca, i, j, f, r, rfl, hc, q⟩ := h
    refine ⟨_, PSs.nox (pss_cons (ps_asg (pe_ix ix_list (pe_lst (pa_cons (pe_tup (pa_cons (pe_op op_sub pe_int pe_int) (pa_cons pe_int pa_nil))) (pa_cons (pe_tup (pa_cons pe_int (pa_cons pe_int pa_nil))) (pa_cons (pe_tup (pa_cons pe_int (pa_cons pe_int pa_nil))) (pa_cons (pe_tup (pa_cons pe_int (pa_cons (pe_op op_sub pe_int pe_int) pa_nil))) pa_nil))))) (pe_op op_mod (pe_callTy call_int1 (by rfl) T.b_int boot_int (pa_cons (pv 1) pa_nil)) pe_int) (fun _ _ => rfl)) (pg_tup rfl (pgs_cons (pg_name (i := 2) sc__law_on.nd rfl (Or.inl rfl)) (pgs_cons (pg_name (i := 3) sc__law_on.nd rfl (Or.inl rfl)) pgs_nil))))
      (pss_one (ps_ret (pe_tup (pa_cons (pe_op op_add (pe_ix ix_tup (pv 0) pe_int (fun _ _ => rfl)) (pv 2)) (pa_cons (pe_op op_add (pe_ix ix_tup (pv 0) pe_int (fun _ _ => rfl)) (pv 3)) pa_nil)))))), ?_⟩
    have z : ∀ {n : Nat}, n ≤ 10 → n ≤ sizeLine := fun h => Evl.sz_of (by omega)
    refine ⟨_, _, rfl, rfl, z (by simp), fun p0 h0 => ⟨z (by simp), fun p1 h1 => ⟨z (by simp), fun p2 h2 => ⟨_, _, rfl, rfl, z (by simp), fun p3 h3 => ⟨z (by simp), fun p4 h4 => ?_⟩⟩⟩⟩⟩
    have x0 := ex_new (o := .tup [V.int (0 - 1), V.int 0]) h0
    have s0 : upd H p0 (.tup [V.int (0 - 1), V.int 0]) p0 = some (.tup [V.int (-1), V.int 0]) := upd_same
    generalize upd H p0 (.tup [V.int (0 - 1), V.int 0]) = G0 at x0 s0 h1 h2 h3 h4 ⊢
    have x1 := ex_new (o := .tup [V.int 0, V.int 1]) h1
    have s1 : upd G0 p1 (.tup [V.int 0, V.int 1]) p1 = some (.tup [V.int 0, V.int 1]) := upd_same
    generalize upd G0 p1 (.tup [V.int 0, V.int 1]) = G1 at x1 s1 h2 h3 h4 ⊢
    have x2 := ex_new (o := .tup [V.int 1, V.int 0]) h2
    have s2 : upd G1 p2 (.tup [V.int 1, V.int 0]) p2 = some (.tup [V.int 1, V.int 0]) := upd_same
    generalize upd G1 p2 (.tup [V.int 1, V.int 0]) = G2 at x2 s2 h3 h4 ⊢
    have x3 := ex_new (o := .tup [V.int 0, V.int (0 - 1)]) h3
    have s3 : upd G2 p3 (.tup [V.int 0, V.int (0 - 1)]) p3 = some (.tup [V.int 0, V.int (-1)]) := upd_same
    generalize upd G2 p3 (.tup [V.int 0, V.int (0 - 1)]) = G3 at x3 s3 h4 ⊢
    have x4 := ex_new (o := .lst [V.ref p0, V.ref p1, V.ref p2, V.ref p3]) h4
    have s4 : upd G3 p4 (.lst [V.ref p0, V.ref p1, V.ref p2, V.ref p3]) p4 = some (.lst [V.ref p0, V.ref p1, V.ref p2, V.ref p3]) := upd_same
    generalize upd G3 p4 (.lst [V.ref p0, V.ref p1, V.ref p2, V.ref p3]) = G4 at x4 s4 ⊢
    have xx := (((x0.trans x1).trans x2).trans x3).trans x4
    have t0 := ((x1.trans x2).trans x3).trans x4 _ _ s0
    have t1 := (x2.trans x3).trans x4 _ _ s1
    have t2 := x3.trans x4 _ _ s2
    have t3 := x4 _ _ s3
    refine ⟨_, rfl, .inl ⟨_, rfl, _, _, rfl, rfl, by show (0 : Int) < 4; decide, ?_⟩⟩
    have cs : f % 4 = 0 ∨ f % 4 = 1 ∨ f % 4 = 2 ∨ f % 4 = 3 := by omega
    obtain ⟨p, a, b, ea, eb, hp, hi⟩ : ∃ (p : Addr) (a b : Int), a = dI f ∧ b = dJ f ∧ G4 p = some (.tup [V.int a, V.int b]) ∧ atI [V.ref p0, V.ref p1, V.ref p2, V.ref p3] (f % 4) = some (.ref p) := by
      rcases cs with h | h | h | h
      · exact ⟨_, -1, 0, by unfold dI; rw [if_pos h], by unfold dJ; rw [if_neg (by omega), if_neg (by omega)], t0, by rw [h]; exact atI_nat (j := 0) rfl⟩
      · exact ⟨_, 0, 1, by unfold dI; rw [if_neg (by omega), if_neg (by omega)], by unfold dJ; rw [if_pos h], t1, by rw [h]; exact atI_nat (j := 1) rfl⟩
      · exact ⟨_, 1, 0, by unfold dI; rw [if_neg (by omega), if_pos h], by unfold dJ; rw [if_neg (by omega), if_neg (by omega)], t2, by rw [h]; exact atI_nat (j := 2) rfl⟩
      · exact ⟨_, 0, -1, by unfold dI; rw [if_neg (by omega), if_neg (by omega)], by unfold dJ; rw [if_neg (by omega), if_pos h], t3, by rw [h]; exact atI_nat (j := 3) rfl⟩
    have hc' := Evl.ex_t xx hc
    refine ⟨p4, _, _, .ref p, rfl, rfl, .of s4, hi, p, _, rfl, .of hp, rfl, _, _, rfl, _, _, rfl, rfl, ?_⟩
    refine ⟨_, rfl, ca, _, 0, .int i, rfl, rfl, hc', atI_nat (j := 0) rfl, _, rfl, _, _, rfl, rfl, _, rfl, ca, _, 1, .int j, rfl, rfl, hc', atI_nat (j := 1) rfl, _, rfl, _, _, rfl, rfl, z (by simp), fun p5 h5 => q _ _ (xx.trans (ex_new h5)) ?_⟩
    rw [← ea, ← eb]
    exact .of upd_same
end
end Om
end PartC2
section PartC3
set_option Elab.async false
set_option linter.all false
set_option maxRecDepth 100000
set_option maxHeartbeats 400000
namespace Om
open PySem PySem.Spec PyProof.Rows L2 He TL
def tupI (l : List Int) : PyData := .tuple (l.map PyData.int)
theorem tupI_ok (l : List Int) : tupOnly (tupI l) = true := by
  unfold tupOnly tupI tupD
  exact tupDs_int _ l
theorem tupIs_ok : ∀ ls : List (List Int), tupOnlys (ls.map tupI) = true
  | [] => rfl
  | l :: ls => tupDs_app (tupD1 (tupI_ok l)) (tupIs_ok ls)
theorem NewL.push {K : Frg} {H : Hp} {p : Addr} {xs : List V} {ds : List PyData} {v : V} {d : PyData} (hp : H p = some (.lst xs)) (hd : DpAll K H xs ds) (ht : tupOnlys ds = true) (dv : Dp K H v d) (tv : tupOnly d = true) : NewL K (upd H p (.lst (xs ++ [v]))) p (ds ++ [d]) := by
  have tk : Tk H (upd H p (.lst (xs ++ [v]))) := Tk.upd (rd_lst hp)
  exact ⟨xs ++ [v], upd_same, dps_app (dps_tk tk ht hd) (.cons (dp_tk tk tv dv) .nil), tupDs_app ht (tupD1 tv)⟩
theorem dp_tupI {K : Frg} {H : Hp} {a : Addr} {l : List Int} (h : SqT K H a (l.map V.int)) : Dp K H (.ref a) (tupI l) := .tup h (dps_int l)
theorem dp_tupI_inv {K : Frg} {H : Hp} {v : V} {l : List Int} (h : Dp K H v (tupI l)) : ∃ a, v = .ref a ∧ SqT K H a (l.map V.int) := by
  unfold tupI at h
  cases h with
  | tup hs ha =>
    obtain rfl := dps_int_eq ha
    exact ⟨_, rfl, hs⟩
/-- a cell, a state of the island -/
def inB (hi wi : Nat) (l : List Int) : Prop := ∃ i j : Int, l = [i, j] ∧ 0 ≤ i ∧ i < hi ∧ 0 ≤ j ∧ j < wi
def stB (hi wi : Nat) (l : List Int) : Prop := ∃ i j f : Int, l = [i, j, f] ∧ 0 ≤ i ∧ i < hi ∧ 0 ≤ j ∧ j < wi ∧ 0 ≤ f ∧ f < 4
/-- how many steps are left within -/
def msr (hi wi : Nat) (f i j : Int) : Nat := if 0 ≤ i ∧ i < hi ∧ 0 ≤ j ∧ j < wi then (if f % 4 = 0 then (i + 1).toNat else if f % 4 = 1 then (wi - j).toNat else if f % 4 = 2 then (hi - i).toNat else (j + 1).toNat) else 0
theorem msr_le {hi wi : Nat} {f i j : Int} (h1 : hi ≤ 4) (h2 : wi ≤ 4) : msr hi wi f i j ≤ 4 := by
  unfold msr
  split
  · split
    · omega
    · split
      · omega
      · split <;> omega
  · omega
theorem msr_step {hi wi : Nat} {f i j : Int} (h : 0 ≤ i ∧ i < hi ∧ 0 ≤ j ∧ j < wi) : msr hi wi f (i + dI f) (j + dJ f) + 1 ≤ msr hi wi f i j := by
  have cs : f % 4 = 0 ∨ f % 4 = 1 ∨ f % 4 = 2 ∨ f % 4 = 3 := by omega
  unfold msr
  rw [if_pos h]
  rcases cs with c | c | c | c
  · have e1 : dI f = -1 := by unfold dI; rw [if_pos c]
    have e2 : dJ f = 0 := by unfold dJ; rw [if_neg (by omega), if_neg (by omega)]
    rw [e1, e2]
    repeat' split
    all_goals omega
  · have e1 : dI f = 0 := by unfold dI; rw [if_neg (by omega), if_neg (by omega)]
    have e2 : dJ f = 1 := by unfold dJ; rw [if_pos c]
    rw [e1, e2]
    repeat' split
    all_goals omega
  · have e1 : dI f = 1 := by unfold dI; rw [if_neg (by omega), if_pos c]
    have e2 : dJ f = 0 := by unfold dJ; rw [if_neg (by omega), if_neg (by omega)]
    rw [e1, e2]
    repeat' split
    all_goals omega
  · have e1 : dI f = 0 := by unfold dI; rw [if_neg (by omega), if_neg (by omega)]
    have e2 : dJ f = -1 := by unfold dJ; rw [if_neg (by omega), if_pos c]
    rw [e1, e2]
    repeat' split
    all_goals omega
section
variable {w : World} {K : Frg} {mg : Str → Option Value} {base : Heap}
/-- _law_line -/
def sp__law_line (K : Frg) : Sp := fun vs H Q _ => ∃ (ra ca : Addr) (rows : List Str) (wd : Nat) (i j f : Int) (r : List V), vs = [.ref ra, .ref ca, .int f] ∧ SqT K H ra (rows.map V.str) ∧ RowsOk rows wd ∧ SqT K H ca (.int i :: .int j :: r) ∧
  ∀ (p : Addr) (H' : Hp) (ls : List (List Int)), Ex H H' → NewL K H' p (ls.map tupI) → (∀ l ∈ ls, inB rows.length wd l) → ls.length ≤ 4 → Q (.ref p) H'
theorem sc__law_line : FnScope ["_law_rows_here", "_law_cell", "_law_facing", "_law_found"] ["_law_rows_here", "_law_cell", "_law_facing"] (defScope s__law_line) := ⟨rfl, rfl, rfl, by decide +kernel, rfl, by decide +kernel, by decide +kernel⟩
theorem ok__law_line (T : Tx w K mg) : FnOk prg w K mg base CX0 2 (ga K "_law_line") (fdOf K (ga K "_law_line")) ["_law_rows_here", "_law_cell", "_law_facing"] (sp__law_line K) := by
  refine T.f__law_line.ok sc__law_line (fun vs H Q E h => ?_) (fun cdv A outer s H vs Q E hr h => ?_)
  · obtain ⟨ra, ca, rows, wd, i, j, f, r, rfl, _⟩ := h
    rfl
  · obtain ⟨ra, ca, rows, wd, i, j, f, r, rfl, hr0, ok, hc, q⟩ := h
    refine ⟨_, PSs.nox (pss_cons (ps_par (i := 3) (j := 1) (by rfl) sc__law_line.nd rfl rfl (by decide) rfl rfl (pa_cons (pe_lst pa_nil) (pa_cons (pe_call (ok__law_on T) (hr.mono (by decide)) (by rfl) T.g__law_on T.f__law_on.kp T.p__law_on .nil pass0 (pa_cons (pv 1) (pa_cons (pv 2) pa_nil))) pa_nil)) (by rfl))
      (pss_cons (ps_while PassesOwn.never (PW.pt (pw_and (pt_chain op_le op_lt pe_int (pe_ix ix_tup (pv 1) pe_int (fun _ _ => rfl)) (pe_callB call_len_seq (by rfl) T.b_len PySem.boot_len (pa_cons (pv 0) pa_nil))) (pw_and1 (pt_chain op_le op_lt pe_int (pe_ix ix_tup (pv 1) pe_int (fun _ _ => rfl)) (pe_callB call_len_str (by rfl) T.b_len PySem.boot_len (pa_cons (pe_ix ix_tup (pv 0) pe_int (fun _ _ => rfl)) pa_nil)))))) (pss_cons (ps_expr (pe_bm PySem.F.plainAttrs_list PySem.F.slot_list_append PySem.F.type_list_append mt_append (pv 3) (pa_cons (pv 1) pa_nil)))
      (pss_one (ps_set (i := 1) sc__law_line.nd rfl (Or.inl rfl) (pe_call (ok__law_on T) (hr.mono (by decide)) (by rfl) T.g__law_on T.f__law_on.kp T.p__law_on .nil pass0 (pa_cons (pv 1) (pa_cons (pv 2) pa_nil)))))))
      (pss_one (ps_ret (pv 3))))), ?_⟩
    obtain ⟨r0, rr, hrr⟩ : ∃ r0 rr, rows = r0 :: rr := by
      cases rows with
      | nil => exact absurd ok.hi.1 (by simp)
      | cons a r => exact ⟨a, r, rfl⟩
    have h0 : atI (rows.map V.str) ((0 : Nat) : Int) = some (.str r0) := atI_nat (by rw [hrr]; rfl)
    have r0m : r0 ∈ rows := by rw [hrr]; exact .head _
    have lw : (r0.length : Int) = wd := by rw [len_tl, ok.len r0 r0m]
    have szr : r0.length ≤ sizeLine := Evl.sz_of (by rw [len_tl, ok.len r0 r0m]; have := ok.wi; omega)
    have ohi := ok.hi
    have owi := ok.wi
    refine ⟨Evl.sz_of (by simp), fun pf hpf => ?_⟩
    have xf := ex_new (o := .lst []) hpf
    refine ⟨_, rfl, _, rfl, ca, i, j, f, r, rfl, Evl.ex_t xf hc, fun p1 H1 x1 s1 => ?_⟩
    refine ⟨_, _, rfl, ?_⟩
    let W : Nat → L2.St → Hp → Prop := fun m σ H' => ∃ (ca' : Addr) (i' j' : Int) (ls : List (List Int)), σ = [some (.ref ra), some (.ref ca'), some (.int f), some (.ref pf)] ∧ SqT K H' ca' [.int i', .int j'] ∧ NewL K H' pf (ls.map tupI) ∧ (∀ l ∈ ls, inB rows.length wd l) ∧ ls.length + msr rows.length wd f i' j' ≤ 4 ∧ m = msr rows.length wd f i' j' ∧ Ex H H'
    refine ⟨W, ⟨_, p1, _, _, [], rfl, s1, ⟨[], x1 _ _ upd_same, .nil, rfl⟩, (fun l hl => by cases hl), by have := @msr_le rows.length wd f (i + dI f) (j + dJ f) (by omega) (by omega); simp; omega, rfl, xf.trans x1⟩, ?_⟩
    rintro m σ H2 ⟨ca', i', j', ls, rfl, hc2, nl, hls, hle, rfl, x2⟩
    have out : Q (.ref pf) H2 := q pf H2 ls x2 nl hls (by omega)
    obtain ⟨xs, nl1, nl2, nl3⟩ := nl
    have hr2 := Evl.ex_t x2 hr0
    refine ⟨_, rfl, ca', _, 0, .int i', rfl, rfl, hc2, atI_nat (j := 0) rfl, _, _, rfl, rfl, _, rfl, ?_⟩
    refine ifB (fun e1 => ?_) (fun e1 => ⟨_, rfl, iteF ⟨_, rfl, out⟩⟩)
    have e1 := of_decide_eq_true e1
    refine ⟨_, rfl, ra, _, rfl, .inr hr2, _, _, rfl, rfl, _, rfl, ?_⟩
    rw [List.length_map]
    refine ifB (fun e2 => ?_) (fun e2 => ⟨_, rfl, out⟩)
    have e2 := of_decide_eq_true e2
    refine ⟨_, rfl, ca', _, 1, .int j', rfl, rfl, hc2, atI_nat (j := 1) rfl, _, _, rfl, rfl, _, rfl, ?_⟩
    refine ifB (fun e3 => ?_) (fun e3 => ⟨_, rfl, iteF ⟨_, rfl, out⟩⟩)
    have e3 := of_decide_eq_true e3
    refine ⟨_, rfl, ra, _, 0, .str r0, rfl, rfl, hr2, h0, r0, rfl, szr, _, _, rfl, rfl, _, rfl, ?_⟩
    refine ifB (fun e4 => ?_) (fun e4 => ⟨_, rfl, out⟩)
    have e4 := of_decide_eq_true e4
    have hin : 0 ≤ i' ∧ i' < (rows.length : Int) ∧ 0 ≤ j' ∧ j' < (wd : Int) := ⟨e1, e2, e3, by omega⟩
    have hst := msr_step (f := f) hin
    refine ⟨fun σ' H' => ∃ m', m' < msr rows.length wd f i' j' ∧ W m' σ' H', fun _ _ h => h, ?_⟩
    refine ⟨_, rfl, .inl ⟨rfl, _, .of nl1⟩, _, rfl, pf, xs, .ref ca', rfl, rfl, nl1, Evl.sz_lt (by rw [dps_len nl2, List.length_map]; omega), ?_⟩
    have np := NewL.push nl1 nl2 nl3 (dp_tupI (l := [i', j']) hc2) (tupI_ok _)
    have tk : Tk H2 (upd H2 pf (.lst (xs ++ [.ref ca']))) := Tk.upd (rd_lst nl1)
    have hc3 : SqT K (upd H2 pf (.lst (xs ++ [.ref ca']))) ca' [.int i', .int j'] := by
      obtain ⟨a, ea, h⟩ := dp_tupI_inv (dp_tk tk (tupI_ok [i', j']) (dp_tupI (l := [i', j']) hc2))
      cases ea
      exact h
    have x3 := Evl.Ex.mut (o := .lst (xs ++ [.ref ca'])) x2 hpf
    generalize upd H2 pf (.lst (xs ++ [.ref ca'])) = H3 at np hc3 x3 ⊢
    refine ⟨_, rfl, _, rfl, ca', i', j', f, [], rfl, hc3, fun p4 H4 x4 s4 => ?_⟩
    have nl4 : NewL K H4 pf ((ls ++ [[i', j']]).map tupI) := by
      rw [List.map_append]
      exact np.ex x4
    refine ⟨_, ?_, p4, _, _, ls ++ [[i', j']], rfl, s4, nl4, fun l hl => ?_, ?_, rfl, x3.trans x4⟩
    · omega
    · rcases List.mem_append.mp hl with h | h
      · exact hls l h
      · rw [List.mem_singleton.mp h]
        exact ⟨i', j', rfl, hin⟩
    · rw [List.length_append]
      simp
      omega
end
end Om
end PartC3
section PartC4
set_option Elab.async false
set_option linter.all false
set_option maxRecDepth 100000
set_option maxHeartbeats 400000
namespace Om
open PySem PySem.Spec PyProof.Rows L2 He TL
theorem catL {K : Frg} {H : Hp} {a b : Addr} {da db : List PyData} {Q : VK} (ha : NewL K H a da) (hb : NewL K H b db) (hz : da.length + db.length ≤ 100000) (k : ∀ p H1, Ex H H1 → NewL K H1 p (da ++ db) → Q (.ref p) H1) : rCat (.ref a) (.ref b) H Q := by
  obtain ⟨xs, a1, a2, a3⟩ := ha
  obtain ⟨ys, b1, b2, b3⟩ := hb
  exact ⟨a, b, xs, ys, rfl, rfl, a1, b1, Evl.sz_of (by rw [dps_len a2, dps_len b2]; exact hz), fun p hp => k p _ (ex_new hp) ⟨xs ++ ys, upd_same, dps_app (dps_ex (ex_new hp) a2) (dps_ex (ex_new hp) b2), tupDs_app a3 b3⟩⟩
section
variable {w : World} {K : Frg} {mg : Str → Option Value} {base : Heap}
/-- _law_cells -/
def sp__law_cells (K : Frg) : Sp := fun vs H Q _ => ∃ (ra : Addr) (rows : List Str) (wd : Nat), vs = [.ref ra] ∧ SqT K H ra (rows.map V.str) ∧ RowsOk rows wd ∧
  ∀ (p : Addr) (H' : Hp) (ls : List (List Int)), Ex H H' → NewL K H' p (ls.map tupI) → (∀ l ∈ ls, inB rows.length wd l) → ls.length ≤ 16 → ((∃ r ∈ rows, ∃ c ∈ tl r, c ≠ 126) → ls ≠ []) → Q (.ref p) H'
theorem sc__law_cells : FnScope ["_law_rows_here", "_law_found", "_law_row", "_law_column"] ["_law_rows_here"] (defScope s__law_cells) := ⟨rfl, rfl, rfl, by decide +kernel, rfl, by decide +kernel, by decide +kernel⟩
theorem ok__law_cells (T : Tx w K mg) : FnOk prg w K mg base CX0 1 (ga K "_law_cells") (fdOf K (ga K "_law_cells")) ["_law_rows_here"] (sp__law_cells K) := by
  refine T.f__law_cells.ok sc__law_cells (fun vs H Q E h => ?_) (fun cdv A outer s H vs Q E hr h => ?_)
  · obtain ⟨ra, rows, wd, rfl, _⟩ := h
    rfl
  · obtain ⟨ra, rows, wd, rfl, hr0, ok, q⟩ := h
    refine ⟨_, PSs.nox (pss_cons (ps_set (i := 1) sc__law_cells.nd rfl (Or.inl rfl) (pe_lst pa_nil))
      (pss_cons (ps_for PassesOwn.never rfl (pi_range1 (by rfl) T.b_range (pa_cons (pe_callB call_len_seq (by rfl) T.b_len PySem.boot_len (pa_cons (pv 0) pa_nil)) pa_nil)) (pg_name (i := 2) sc__law_cells.nd rfl (Or.inr rfl)) (pss_one (ps_set (i := 1) sc__law_cells.nd rfl (Or.inl rfl) (pe_op op_cat (pv 1) (pe_lc (own := [("_law_column", 3)]) (g := gName 3) rfl sc__law_cells.nd (pi_range1 (by rfl) T.b_range (pa_cons (pe_callB call_len_str (by rfl) T.b_len PySem.boot_len (pa_cons (pe_ix ix_tup (pv 0) pe_int (fun _ _ => rfl)) pa_nil)) pa_nil)) (blkOk_by (own := [("_law_column", 3)]) (N := ["_law_rows_here", "_law_found", "_law_row", "_law_column"]) (sc := defScope s__law_cells) (by decide +kernel)) (fun _ _ _ _ _ => pg_name (i := 3) sc__law_cells.nd rfl (Or.inl rfl)) (fun _ _ _ _ _ => pts_one (pt_cmpR op_ne (pe_ix ix_str (pe_ix (kIx (K := K) (r := rIxT) rfl ix_tup) (pv 0) (pv 2) (fun _ _ => rfl)) (pv 3) (fun _ _ => rfl)) pe_str (nomark _))) (fun _ _ _ _ _ => (pe_tup (pa_cons (pv 2) (pa_cons (pv 3) pa_nil)))))))))
      (pss_one (ps_ret (pv 1))))), ?_⟩
    obtain ⟨r0, rr, hrr⟩ : ∃ r0 rr, rows = r0 :: rr := by
      cases rows with
      | nil => exact absurd ok.hi.1 (by simp)
      | cons a r => exact ⟨a, r, rfl⟩
    have h0 : atI (rows.map V.str) ((0 : Nat) : Int) = some (.str r0) := atI_nat (by rw [hrr]; rfl)
    have r0m : r0 ∈ rows := by rw [hrr]; exact .head _
    have lw : (r0.length : Int) = wd := by rw [len_tl, ok.len r0 r0m]
    have szr : ∀ r ∈ rows, r.length ≤ sizeLine := fun r hr => Evl.sz_of (by rw [len_tl, ok.len r hr]; have := ok.wi; omega)
    have ohi := ok.hi
    have owi := ok.wi
    refine ⟨Evl.sz_of (by simp), fun pf hpf => ?_⟩
    have xf := ex_new (o := .lst []) hpf
    have nf : NewL K (upd H pf (.lst [])) pf (([] : List (List Int)).map tupI) := ⟨[], upd_same, .nil, rfl⟩
    generalize upd H pf (.lst []) = H1 at xf nf ⊢
    refine ⟨_, rfl, ra, _, rfl, .inr (Evl.ex_t xf hr0), _, rfl, by rw [List.length_map]; omega, by rw [List.length_map]; omega, ?_⟩
    have hn : ((rows.map V.str).length : Int).toNat = rows.length := by rw [List.length_map]; omega
    rw [hn]
    refine for_range (fun i σ H' => ∃ (p : Addr) (o : Option V) (ls : List (List Int)), σ = [some (.ref ra), some (.ref p), o, none] ∧ NewL K H' p (ls.map tupI) ∧ (∀ l ∈ ls, inB rows.length wd l) ∧ ls.length ≤ 4 * i ∧
      (∀ (j : Nat) (r : Str), j < i → rows[j]? = some r → (∃ c ∈ tl r, c ≠ 126) → ls ≠ []) ∧ Ex H H') ⟨pf, none, [], rfl, nf, (fun l hl => by cases hl), Nat.le_refl _, (fun j r hj => by omega), xf⟩ ?_ ?_
    · rintro i σ H2 hi ⟨p, o, ls, rfl, nl, hls, hle, hland, x2⟩
      obtain ⟨ri, hri⟩ : ∃ ri, rows[i]? = some ri := ⟨_, List.getElem?_eq_getElem hi⟩
      have rim := List.mem_of_getElem? hri
      have lri := ok.len ri rim
      have hr2 := Evl.ex_t x2 hr0
      refine ⟨_, rfl, _, rfl, ra, _, 0, .str r0, rfl, rfl, hr2, h0, r0, rfl, szr r0 r0m, _, rfl, by omega, by omega, fun D hD => ?_⟩
      refine lcD (K := K) (S := []) (g := gName 3) (walk_range (lo := 0) (n := (r0.length : Int).toNat)) hD (fun _ => True) (fun k ds => ∃ ls' : List (List Int), ds = ls'.map tupI ∧ (∀ l ∈ ls', inB rows.length wd l) ∧ ls'.length ≤ k ∧ ((∃ j, j < k ∧ ∃ c, (tl ri)[j]? = some c ∧ c ≠ 126) → ls' ≠ []))
        (by simp) (by omega) (fun _ _ _ => trivial) (fun _ _ _ => trivial) trivial ⟨[], rfl, (fun l hl => by cases hl), Nat.le_refl _, fun ⟨j, hj, _⟩ => by omega⟩ ?_ ?_
      · rintro k x Ha Hb ds P1 P2 hk ⟨ls', rfl, a1, a2, a3⟩ k1 _ ⟨rfl, rfl⟩ c1 c2
        obtain ⟨c, hc⟩ : ∃ c, (tl ri)[k]? = some c := ⟨_, List.getElem?_eq_getElem (by omega)⟩
        have z : ∀ n : Nat, (0 : Int) + (n : Int) = (n : Int) := fun n => Int.zero_add _
        refine ⟨rfl, _, rfl, _, rfl, ra, _, _, .str ri, rfl, rfl, Evl.ex_t k1.ex hr2, by rw [z]; exact atI_nat (by rw [List.getElem?_map, hri]; rfl), _, rfl, ri, _, c, rfl, rfl, szr ri rim, by rw [z]; exact atI_nat hc, rfl, _, rfl, ?_⟩
        have ec : decide (V.str ⟨#[c]⟩ = V.str "~") = decide (c = 126) := by
          by_cases h : c = 126
          · rw [h]; rfl
          · rw [decide_eq_false h]
            refine decide_eq_false fun q => h ?_
            injection q with q
            have : tl (⟨#[c]⟩ : Str) = tl ("~" : Str) := by rw [q]
            have e2 : tl ("~" : Str) = [126] := by decide +kernel
            rw [e2] at this
            exact (List.cons.inj this).1
        have nx : ∀ {b : Prop}, (c ≠ 126 → b) → ((∃ j, j < k ∧ ∃ c, (tl ri)[j]? = some c ∧ c ≠ 126) → b) → (∃ j, j < k + 1 ∧ ∃ c, (tl ri)[j]? = some c ∧ c ≠ 126) → b := fun {b} h1 h2 ⟨j, hj, c', e, ne⟩ => by
          by_cases q : j = k
          · rw [q, hc] at e
            cases e
            exact h1 ne
          · exact h2 ⟨j, by omega, c', e, ne⟩
        rw [ec]
        refine ifB (fun e => ?_) (fun e => ?_)
        · refine ⟨_, rfl, _, rfl, Evl.sz_of (by simp), fun p2 hp2 => c1 _ (tupI [(i : Int), (k : Int)]) _ (.new hp2) trivial ?_ (tupI_ok _) ⟨ls' ++ [[(i : Int), (k : Int)]], by rw [List.map_append]; rfl, fun l hl => ?_, by rw [List.length_append]; simp; omega, fun _ => by simp⟩⟩
          · show Dp K (upd Hb p2 (.tup [V.int (0 + (i : Int)), V.int (0 + (k : Int))])) (V.ref p2) _
            rw [z, z]
            exact dp_tupI (l := [(i : Int), (k : Int)]) (.of upd_same)
          · rcases List.mem_append.mp hl with h | h
            · exact a1 l h
            · rw [List.mem_singleton.mp h]
              exact ⟨_, _, rfl, by omega, by omega, by omega, by omega⟩
        · refine c2 _ (.refl _ _) trivial ⟨ls', rfl, a1, by omega, nx (fun h => ?_) a3⟩
          rw [decide_eq_false h] at e
          cases e
      · rintro H3 ds k1 _ nl3 ⟨ls', rfl, a1, a2, a3⟩ _
        have x3 := k1.ex
        refine catL (nl.ex x3) nl3 (by rw [List.length_map, List.length_map]; omega) fun p4 H4 x4 nl4 => ?_
        rw [← List.map_append] at nl4
        refine ⟨p4, _, ls ++ ls', rfl, nl4, fun l hl => ?_, by rw [List.length_append]; omega, fun j r hj hjr hl => ?_, (x2.trans x3).trans x4⟩
        · rcases List.mem_append.mp hl with h | h
          · exact hls l h
          · exact a1 l h
        · intro hnil
          obtain ⟨h1, h2⟩ := List.append_eq_nil_iff.mp hnil
          by_cases q : j = i
          · rw [q, hri] at hjr
            cases hjr
            obtain ⟨c, hc, hne⟩ := hl
            obtain ⟨m, hm, em⟩ := List.getElem_of_mem hc
            exact a3 ⟨m, by omega, c, by rw [List.getElem?_eq_getElem hm, em], hne⟩ h2
          · exact hland j r (by omega) hjr hl h1
    · rintro σ H2 ⟨p, o, ls, rfl, nl, hls, hle, hland, x2⟩
      refine ⟨_, rfl, q p H2 ls x2 nl hls (by omega) ?_⟩
      rintro ⟨r, hr, hc⟩
      obtain ⟨j, hj, e⟩ := List.getElem_of_mem hr
      exact hland j r hj (by rw [List.getElem?_eq_getElem hj, e]) hc
end
end Om
end PartC4
section PartC5
set_option Elab.async false
set_option linter.all false
set_option maxRecDepth 100000
set_option maxHeartbeats 400000
namespace Om
open PySem PySem.Spec PyProof.Rows L2 He TL
theorem sign_in {rows : List Str} {wd : Nat} (ok : RowsOk rows wd) {i j : Int} (h : signAt rows i j ≠ 126) : 0 ≤ i ∧ i < (rows.length : Int) ∧ 0 ≤ j ∧ j < (wd : Int) := by
  obtain ⟨r0, rr, hrr⟩ : ∃ r0 rr, rows = r0 :: rr := by
    cases rows with
    | nil => exact absurd ok.hi.1 (by simp)
    | cons a r => exact ⟨a, r, rfl⟩
  have lw := ok.len r0 (by rw [hrr]; exact .head _)
  unfold signAt at h
  by_cases c : 0 ≤ i ∧ i < rows.length ∧ 0 ≤ j ∧ j < ((tl (rows.headD Str.empty)).length : Int)
  · obtain ⟨c1, c2, c3, c4⟩ := c
    have : (tl (rows.headD Str.empty)).length = wd := by rw [hrr]; exact lw
    omega
  · rw [if_neg c] at h
    exact absurd rfl h
theorem one_water (c : Nat) : decide (V.str (oneS c) = V.str "~") = decide (c = 126) := by
  by_cases h : c = 126
  · rw [h]; rfl
  · rw [decide_eq_false h]
    refine decide_eq_false fun q => h ?_
    injection q with q
    have : tl (oneS c) = tl ("~" : Str) := by rw [q]
    have e2 : tl ("~" : Str) = [126] := by decide +kernel
    rw [e2] at this
    exact (List.cons.inj this).1
section
variable {w : World} {K : Frg} {mg : Str → Option Value} {base : Heap}
/-- _law_shore -/
def sp__law_shore (K : Frg) : Sp := fun vs H Q _ => ∃ (ra sa : Addr) (rows : List Str) (wd : Nat) (i j f sd : Int), vs = [.ref ra, .ref sa, .int sd] ∧ SqT K H ra (rows.map V.str) ∧ RowsOk rows wd ∧ SqT K H sa [.int i, .int j, .int f] ∧
  (∀ H', Ex H H' → Q .non H') ∧ ∀ (p : Addr) (H' : Hp) (l : List Int), Ex H H' → SqT K H' p (l.map V.int) → stB rows.length wd l → Q (.ref p) H'
theorem sc__law_shore : FnScope ["_law_rows_here", "_law_state", "_law_side", "_law_cell", "_law_facing", "_law_turn"] ["_law_rows_here", "_law_state", "_law_side"] (defScope s__law_shore) := ⟨rfl, rfl, rfl, by decide +kernel, rfl, by decide +kernel, by decide +kernel⟩
theorem ok__law_shore (T : Tx w K mg) : FnOk prg w K mg base CX0 2 (ga K "_law_shore") (fdOf K (ga K "_law_shore")) ["_law_rows_here", "_law_state", "_law_side"] (sp__law_shore K) := by
  refine T.f__law_shore.ok sc__law_shore (fun vs H Q E h => ?_) (fun cdv A outer s H vs Q E hr h => ?_)
  · obtain ⟨ra, sa, rows, wd, i, j, f, sd, rfl, _⟩ := h
    rfl
  · obtain ⟨ra, sa, rows, wd, i, j, f, sd, rfl, hr0, ok, hs, q1, q2⟩ := h
    refine ⟨_, PSs.nox (pss_cons (ps_par (i := 3) (j := 4) (by rfl) sc__law_shore.nd rfl rfl (by decide) rfl rfl (pa_cons (pe_slice sl_tupA (pv 1) po_none (po_some pe_int)) (pa_cons (pe_ix ix_tup (pv 1) pe_int (fun _ _ => rfl)) pa_nil)) (by rfl))
      (pss_cons (ps_for PassesOwn.never rfl (pi_tup (pe_tup (pa_cons (pv 2) (pa_cons pe_int (pa_cons (pe_op op_sub pe_int (pv 2)) (pa_cons (pe_op op_sub pe_int (pe_op op_mul pe_int (pv 2))) (pa_cons (pe_op op_sub pe_int (pe_op op_mul pe_int (pv 2))) pa_nil))))))) (pg_name (i := 5) sc__law_shore.nd rfl (Or.inl rfl)) (pss_one (ps_if (pt_cmpR op_ne (pe_call (ok__law_sign T) (hr.mono (by decide)) (by rfl) T.g__law_sign T.f__law_sign.kp T.p__law_sign .nil pass0 (pa_cons (pv 0) (pa_cons (pe_call (ok__law_on T) (hr.mono (by decide)) (by rfl) T.g__law_on T.f__law_on.kp T.p__law_on .nil pass0 (pa_cons (pv 3) (pa_cons (pe_op op_add (pv 4) (pv 5)) pa_nil))) pa_nil))) pe_str (nomark _)) (pss_one (ps_ret (pe_op op_catA (pe_call (ok__law_on T) (hr.mono (by decide)) (by rfl) T.g__law_on T.f__law_on.kp T.p__law_on .nil pass0 (pa_cons (pv 3) (pa_cons (pe_op op_add (pv 4) (pv 5)) pa_nil))) (pe_tup (pa_cons (pe_op op_mod (pe_callTy call_int1 (by rfl) T.b_int boot_int (pa_cons (pe_op op_add (pv 4) (pv 5)) pa_nil)) pe_int) pa_nil))))) pss_nil)))
      (pss_one (ps_ret pe_non)))), ?_⟩
    refine ⟨_, rfl, _, rfl, ?_⟩
    refine slA (K := K) hs (fun b H1 x1 hb => ?_)
    have ec : cutV [V.int i, V.int j, V.int f] none (some 2) = [V.int i, V.int j] := rfl
    rw [ec] at hb
    refine ⟨_, rfl, sa, _, 2, .int f, rfl, rfl, Evl.ex_t x1 hs, atI_nat (j := 2) rfl, _, _, rfl, ?_⟩
    refine ⟨_, rfl, _, rfl, _, _, rfl, rfl, _, rfl, _, _, rfl, rfl, .inl ⟨by decide, by decide⟩, _, _, rfl, rfl, _, rfl, _, _, rfl, rfl, .inl ⟨by decide, by decide⟩, _, _, rfl, rfl, Evl.sz_of (by simp), fun p hp => ⟨p, rfl, ⟨_, .of upd_same⟩, ?_⟩⟩
    have x2 := ex_new (o := .tup ([sd, 0, 0 - sd, 0 - 2 * sd, 0 - 3 * sd].map V.int)) hp
    have hp2 : SqT K (upd H1 p (.tup ([sd, 0, 0 - sd, 0 - 2 * sd, 0 - 3 * sd].map V.int))) p ([sd, 0, 0 - sd, 0 - 2 * sd, 0 - 3 * sd].map V.int) := .of upd_same
    refine for_it (walk_tup (K := K) (a := p) (xs := [sd, 0, 0 - sd, 0 - 2 * sd, 0 - 3 * sd].map V.int)) (fun n σ H' => ∃ (o : Option V), σ = [some (.ref ra), some (.ref sa), some (.int sd), some (.ref b), some (.int f), o] ∧ Ex H1 H' ∧ SqT K H' p ([sd, 0, 0 - sd, 0 - 2 * sd, 0 - 3 * sd].map V.int))
      ⟨none, rfl, x2, hp2⟩ (fun n σ H' _ hP => ?_) ?_ ?_
    · obtain ⟨_, _, _, h⟩ := hP
      exact h
    · generalize [sd, 0, 0 - sd, 0 - 2 * sd, 0 - 3 * sd] = ns at hp2 ⊢
      rintro n x σ H2 H' hn ⟨o, rfl, y1, hp3⟩ ⟨rfl, hx⟩
      rw [List.getElem?_map, Option.map_eq_some_iff] at hx
      obtain ⟨t, _, rfl⟩ := hx
      have y2 := x1.trans y1
      refine ⟨_, rfl, _, rfl, _, rfl, _, rfl, _, _, rfl, rfl, b, i, j, f + t, [], rfl, Evl.ex_t y1 hb, fun p2 H4 x4 s4 => ?_⟩
      refine ⟨ra, p2, rows, wd, _, _, [], rfl, Evl.ex_t (y2.trans x4) hr0, ok, s4, rfl, _, rfl, ?_⟩
      rw [one_water]
      refine ifB (fun e => ?_) (fun e => ?_)
      · have hs0 : signAt rows (i + dI (f + t)) (j + dJ (f + t)) ≠ 126 := fun h => by
          rw [h] at e
          cases e
        obtain ⟨b1, b2, b3, b4⟩ := sign_in ok hs0
        refine ⟨_, rfl, _, rfl, _, rfl, _, _, rfl, rfl, b, i, j, f + t, [], rfl, Evl.ex_t (y1.trans x4) hb, fun p5 H5 x5 s5 => ?_⟩
        refine ⟨_, rfl, _, rfl, _, _, rfl, rfl, .inl ⟨_, rfl, _, _, rfl, rfl, by show (0 : Int) < 4; decide, Evl.sz_of (by simp), fun p6 hp6 => ?_⟩⟩
        refine catA (K := K) (Evl.ex_t (ex_new hp6) s5) (.of upd_same) (by simp) fun p7 H7 x7 s7 => ?_
        refine q2 p7 H7 [i + dI (f + t), j + dJ (f + t), (f + t) % 4] ((((y2.trans x4).trans x5).trans (ex_new hp6)).trans x7) s7 ⟨_, _, _, rfl, b1, b2, b3, b4, Int.emod_nonneg _ (by decide), Int.emod_lt_of_pos _ (by decide)⟩
      · exact ⟨_, rfl, y1.trans x4, Evl.ex_t x4 hp3⟩
    · rintro σ H' ⟨o, rfl, y1, _⟩
      exact q1 _ (x1.trans y1)
end
end Om
end PartC5
section PartRu8
set_option Elab.async false
set_option linter.all false
set_option maxRecDepth 100000
namespace Om
open PySem PySem.Spec PyProof.Rows L2
theorem uni_len {α : Type} [DecidableEq α] : ∀ (l D : List α), l.Nodup → (∀ x ∈ l, x ∈ D) → l.length ≤ D.length
  | [], D, _, _ => Nat.zero_le _
  | x :: l, D, hn, hs => by
    obtain ⟨h1, h2⟩ := List.nodup_cons.mp hn
    have hx := hs x (.head _)
    have := uni_len l (D.erase x) h2 fun y hy => (List.mem_erase_of_ne (by rintro rfl; exact h1 hy)).mpr (hs y (.tail _ hy))
    rw [List.length_erase_of_mem hx] at this
    have h3 : 0 < D.length := List.length_pos_of_mem hx
    show l.length + 1 ≤ _
    omega
section
variable {P : Program} {w : World} {A : Around} {E : Value → Shared → Prop} {s : Shared}
/-- at a stands a set of the int tuples M; as many as a table of 128 places bears -/
structure TuS (P : Program) (w : World) (hp : Heap) (a : Addr) (M : List (Addr × List Int)) (es : Array (Int × Value)) (ep : Nat) (tb : SetTable) : Prop where
  obj : ∃ ob, hp.get? a = some ob ∧ ob.ExactSet ∧ ob.data = .set es ep tb
  lay : es.toList = rowsOf P w M
  tab : TabOk tb (M.map fun q => thash P w q.2)
  uni : (M.map (·.2)).Nodup
  each : ∀ q ∈ M, IsT P w hp q.2 q.1
  pln : tb.plain = true
  ld : w.params.followText "set-order" = true ∨ tb.led = true
  spc : M.length * 5 < tb.mask * 3
variable {a : Addr} {M : List (Addr × List Int)} {es : Array (Int × Value)} {ep : Nat} {tb : SetTable}
theorem TuS.of (R : SetTR P w s.heap a M es ep tb) : TuS P w s.heap a M es ep tb := ⟨R.ob, R.rows, R.tab, R.nd, R.tup, R.plain, R.led, R.room⟩
theorem TuS.tr (R : TuS P w s.heap a M es ep tb) (h : M.length < 64) : SetTR P w s.heap a M es ep tb := ⟨R.obj, R.lay, R.tab, R.uni, R.each, R.pln, R.ld, R.spc, h⟩
theorem TuS.sz (R : TuS P w s.heap a M es ep tb) : es.size = M.length := by
  have e := congrArg List.length R.lay
  simpa [rowsOf] using e
theorem TuS.plc (R : TuS P w s.heap a M es ep tb) : tb.place.size = M.length := by simpa using R.tab.sz
theorem TuS.fit (R : TuS P w s.heap a M es ep tb) : tb.fits es.size = true := by
  have e1 := R.plc
  have e2 := R.sz
  have e3 := R.spc
  unfold SetTable.fits SetTable.fill
  rw [R.tab.dm, e1, e2]
  simp
  omega
theorem TuS.row (R : TuS P w s.heap a M es ep tb) {i : Nat} {q : Addr × List Int} (e : M[i]? = some q) : es[i]? = some (thash P w q.2, Value.ref q.1) := by
  have : es.toList[i]? = (rowsOf P w M)[i]? := by rw [R.lay]
  rw [Array.getElem?_toList] at this
  rw [this]
  simp [rowsOf, e]
theorem dum_nth (m : Nat) : ∀ (n : Nat) (p : SetTable.Probe), p.dummy = none → (nth m p n).dummy = none
  | 0, _, h => h
  | n + 1, p, h => dum_nth m n (adv m p) (by unfold adv; split <;> exact h)
/-- a tuple that is there is found -/
theorem TuS.find (R : TuS P w s.heap a M es ep tb) {x : Addr} {k : List Int} (hx : IsT P w s.heap k x) (hu : A.units < cLine) (hk : k ∈ M.map (·.2)) {Q : SetFound → Shared → Prop} (q : Q (.there none) s) :
    wpAny (model P w) A (setSearch a (.ref x) (thash P w k) true) Q E s := by
  obtain ⟨ob, ho, hex, hd⟩ := R.obj
  have spc := R.spc
  have plc := R.plc
  obtain ⟨p0, hp0, hk0⟩ := List.mem_map.mp hk
  obtain ⟨i0, hi0, e0⟩ := List.getElem_of_mem hp0
  have m0 : M[i0]? = some p0 := by rw [List.getElem?_eq_getElem hi0, e0]
  obtain ⟨N, hN, hNo, hNb⟩ := R.tab.first (by rw [List.length_map]; omega) (thash P w k)
  obtain ⟨j0, hj0⟩ : ∃ j0, tb.place.toList[i0]? = some j0 := ⟨_, List.getElem?_eq_getElem (by rw [Array.length_toList, plc]; exact hi0)⟩
  obtain ⟨c0, hc0, ec0⟩ := R.tab.before hNo (show (M.map fun q => thash P w q.2)[i0]? = some (thash P w k) by rw [List.getElem?_map, m0, ← hk0]; rfl) hj0
  have go : ∀ (f c : Nat) (st : Option SetTable.Probe), st.getD (tb.probeStart (thash P w k)) = nth tb.mask (runAt tb.mask (SetTable.bits (thash P w k) % (tb.mask + 1)) (SetTable.bits (thash P w k))) c → c ≤ c0 → c0 - c < f →
      wpAny (model P w) A (setSearchFrom a (.ref x) (thash P w k) true f st) Q E s := by
    intro f
    induction f with
    | zero => intro c st _ _ hf; exact absurd hf (Nat.not_lt_zero _)
    | succ f ih =>
      intro c st hst hc hf
      rw [setSearchFrom_succ]
      refine wpAny_bind (wpAny_setState_of ho hd R.fit ?_)
      dsimp only
      refine wp_if_neg (by unfold SetTable.gaveWay; rw [mask_odd R.tab.mok]; decide) ?_
      try refine wpAny_bind (wpAny_pure ?_)
      have sh : ∀ d, nth tb.mask (nth tb.mask (runAt tb.mask (SetTable.bits (thash P w k) % (tb.mask + 1)) (SetTable.bits (thash P w k))) c) d = nth tb.mask (runAt tb.mask (SetTable.bits (thash P w k) % (tb.mask + 1)) (SetTable.bits (thash P w k))) (c + d) := fun d => (nth_add tb.mask c _ d).symm
      have wy : ∀ d, (nth tb.mask (nth tb.mask (runAt tb.mask (SetTable.bits (thash P w k) % (tb.mask + 1)) (SetTable.bits (thash P w k))) c) d).j = way tb.mask (thash P w k) (c + d) := fun d => congrArg SetTable.Probe.j (sh d)
      have hcN : c + (N - c) = N := by omega
      have ans := go_spec tb R.tab.ris R.tab.dm (fun i => (es[i]?.map (·.1)).getD 0) (thash P w k) (10 * SetTable.turns tb.mask) (N - c) _ (dum_nth tb.mask c _ rfl) (by omega)
        (fun d hd2 => by rw [wy]; exact hNb (c + d) (by omega)) (by rw [wy, hcN]; exact hNo)
      have hh0 : (fun i => (es[i]?.map (·.1)).getD 0) i0 = thash P w k := by
        show (es[i0]?.map (·.1)).getD 0 = _
        rw [R.row m0, ← hk0]
        rfl
      rcases ans with ⟨d, i, hd3, hi, hh, hno, hpr⟩ | ⟨hno, _⟩
      · have met : tb.probe (fun i => (es[i]?.map (·.1)).getD 0) (thash P w k) (st.getD (tb.probeStart (thash P w k))) = some (.candidate (way tb.mask (thash P w k) (c + d)) i (nth tb.mask (runAt tb.mask (SetTable.bits (thash P w k) % (tb.mask + 1)) (SetTable.bits (thash P w k))) (c + (d + 1)))) := by
          rw [hst, ← wy, ← sh]
          exact hpr
        rw [met]
        dsimp only
        rw [wy] at hi
        have hil : i < M.length := by
          have := (List.getElem?_eq_some_iff.mp hi).1
          rw [Array.length_toList, plc] at this
          exact this
        obtain ⟨p, hp⟩ : ∃ p, M[i]? = some p := ⟨_, List.getElem?_eq_getElem hil⟩
        have pT := R.each p (List.mem_of_getElem? hp)
        have cd : c + d ≤ c0 := by
          rcases Nat.lt_or_ge c0 (c + d) with z | z
          · exact absurd hh0 (hno (c0 - c) i0 (by omega) (by rw [wy, show c + (c0 - c) = c0 by omega, ec0]; exact hj0))
          · exact z
        have rest : wpAny (model P w) A (searchRest a (.ref x) (thash P w k) true f es tb (way tb.mask (thash P w k) (c + d)) i (nth tb.mask (runAt tb.mask (SetTable.bits (thash P w k) % (tb.mask + 1)) (SetTable.bits (thash P w k))) (c + (d + 1)))) Q E s := by
          unfold searchRest
          rw [R.row hp]
          dsimp only
          refine wpAny_bind (wpAny_holding (wpAny_eqBool_tuple hu pT hx ?_))
          refine wpAny_bind (wpAny_setState_of ho hd R.fit ?_)
          dsimp only
          by_cases hkk : p.2 = k
          · exact wp_if_pos (by simp [hkk]) (wpAny_pure q)
          · refine wp_if_neg (by simp [hkk]) ?_
            try refine wpAny_bind (wpAny_pure ?_)
            rw [sameMem]
            dsimp only
            have live := slot_live R.tab.ris hi
            simp only [if_true, live, R.row hp]
            refine wpAny_bind (wpAny_isSame_ref_self (wpAny_bind (wpAny_pure ?_)))
            simp only [if_true]
            refine wp_if_neg (by simp [hkk]) ?_
            have ne : c + d ≠ c0 := fun z => by
              rw [z, ec0] at hi live
              have l2 := slot_live R.tab.ris hj0
              rw [live] at l2
              injection l2 with l2
              rw [l2, m0] at hp
              exact hkk (by rw [← Option.some.inj hp]; exact hk0)
            exact ih (c + (d + 1)) _ rfl (by omega) (by omega)
        by_cases hl : tb.led = true
        · refine wp_if_neg (by simp [hl]) ?_
          try refine wpAny_bind (wpAny_pure ?_)
          exact rest
        · refine wp_if_pos (by simp [hl]) ?_
          refine wpAny_bind (seen_tup hx (fun y hy => ?_) ?_)
          · obtain ⟨e, he, ee⟩ := List.mem_map.mp hy
            have he2 : e ∈ es.toList := by
              have : e ∈ es ∧ e.1 = thash P w k := by simpa using he
              simpa using this.1
            rw [R.lay] at he2
            obtain ⟨p2, hp2, e2⟩ := List.mem_map.mp he2
            exact ⟨p2.2, p2.1, by rw [← ee, ← e2], R.each p2 hp2⟩
          · refine wp_if_neg (by decide) ?_
            try refine wpAny_bind (wpAny_pure ?_)
            exact rest
      · exact absurd hh0 (hno (c0 - c) i0 (by omega) (by rw [wy, show c + (c0 - c) = c0 by omega, ec0]; exact hj0))
  have big : c0 < 100000 := by
    have : 10 * SetTable.turns tb.mask ≤ 1420 := by
      unfold SetTable.turns
      rcases R.tab.mok with e | e | e <;> omega
    omega
  unfold setSearch
  exact go 100000 0 none rfl (Nat.zero_le _) (by omega)
/-- one more, or the same again -/
theorem TuS.add (R : TuS P w s.heap a M es ep tb) {x : Addr} {k : List Int} (hx : IsT P w s.heap k x) (hu : A.units < cLine) (hf : k ∈ M.map (·.2) ∨ M.length < 64) {Q : Bool → Shared → Prop}
    (hQ : ∀ b h' M' es' ep' tb', Heap.SameBut a s.heap h' → TuS P w h' a M' es' ep' tb' → (k ∈ M.map (·.2) → M' = M) → (k ∉ M.map (·.2) → M'.Perm ((x, k) :: M)) → Q b { s with heap := h' }) :
    wpAny (model P w) A (setAddHashed a (.ref x) (thash P w k)) Q E s := by
  by_cases few : M.length + 1 < 64
  · exact add_at (R.tr (by omega)) hx hu few fun b h' M' es' ep' tb' sb R' c1 c2 => hQ b h' M' es' ep' tb' sb (TuS.of (s := { s with heap := h' }) R') c1 c2
  obtain ⟨ob, ho, hex, hd⟩ := R.obj
  have spc := R.spc
  unfold setAddHashed
  refine wpAny_holding ?_
  rw [show (100000 : Nat) = 99999 + 1 from rfl, setAddHashedIn_succ]
  refine wpAny_bind (wpAny_setState_of ho hd R.fit ?_)
  dsimp only
  refine wp_if_neg (by simp [byScan, Value.scannable]) ?_
  try refine wpAny_bind (wpAny_pure ?_)
  by_cases hk : k ∈ M.map (·.2)
  · refine wpAny_bind (R.find hx hu hk ?_)
    dsimp only
    exact wpAny_pure (hQ false s.heap M es ep tb (Heap.SameBut.refl a s.heap) R (fun _ => rfl) fun z => absurd hk z)
  have l63 : M.length = 63 := by
    rcases hf with z | z
    · exact absurd z hk
    · omega
  have m127 : tb.mask = 127 := by
    rcases R.tab.mok with e | e | e
    · omega
    · omega
    · exact e
  refine wpAny_bind (search_at (R.tr (by omega)) hx hu (fun hm => absurd hm hk) fun N hm hN hb => ?_)
  dsimp only
  refine wpAny_bind (wpAny_setState_of ho hd R.fit ?_)
  dsimp only
  obtain ⟨q1, q2, q3, q4, q5, q6, q7, q8, q9⟩ := R.tab.put hN hb
  have pl1 : (tb.put (way tb.mask (thash P w k) N)).1.plain = true := by rw [q6]; exact R.pln
  generalize hpt : tb.put (way tb.mask (thash P w k) N) = pt at q1 q3 q4 q5 q6 q7 q8 q9 pl1 ⊢
  obtain ⟨t1, at1⟩ := pt
  dsimp only at q1 q3 q4 q5 q6 q7 q8 q9 pl1 ⊢
  subst q1
  first
    | (refine wpAny_bind ?_; refine wp_if_pos pl1 ?_; refine hashBy_tup hx ?_)
    | refine wp_if_pos pl1 (wpAny_bind (hashBy_tup hx ?_))
  simp only [if_true]
  generalize SetTable.below tb.place (way tb.mask (thash P w k) N) = pp at q2 q3 ⊢
  have rows1 : (SetTable.insertAt es pp (thash P w k, Value.ref x)).toList = rowsOf P w (M.take pp ++ (x, k) :: M.drop pp) := by rw [SetTable.toList_insertAt, rows_put, R.lay]
  have prm := put_perm M pp (x, k)
  have hs1 : (M.take pp ++ (x, k) :: M.drop pp).map (fun q => thash P w q.2) = (M.map fun q => thash P w q.2).take pp ++ thash P w k :: (M.map fun q => thash P w q.2).drop pp := by simp [List.map_take, List.map_drop]
  rw [← hs1] at q3
  generalize M.take pp ++ (x, k) :: M.drop pp = M1 at prm q3 rows1
  have len1 : M1.length = 64 := by rw [prm.length_eq, List.length_cons, l63]
  have uni1 : (M1.map (·.2)).Nodup := (prm.map (·.2)).nodup_iff.mpr (List.nodup_cons.mpr ⟨hk, R.uni⟩)
  have sz1 : (SetTable.insertAt es pp (thash P w k, Value.ref x)).size = 64 := by
    have e := congrArg List.length rows1
    rw [Array.length_toList] at e
    rw [e]
    simp [rowsOf, len1]
  generalize SetTable.insertAt es pp (thash P w k, Value.ref x) = es1 at rows1 sz1 ⊢
  refine wpAny_bind (wpAny_storeSet_of ho hd ?_ (by rw [sz1, sizeLine_eq]; omega))
  have sb : Heap.SameBut a s.heap (s.heap.update a (Obj.putSet es1 t1)) := Heap.SameBut.update ..
  have ho1 := store_at (es' := es1) (t' := t1) ho hd
  generalize s.heap.update a (Obj.putSet es1 t1) = h1 at sb ho1 ⊢
  have each1 : ∀ q ∈ M1, IsT P w h1 q.2 q.1 := fun q hq => by
    rcases List.mem_cons.mp (prm.mem_iff.mp hq) with e | hq
    · rw [e]
      exact isT_same hx ho hd sb
    · exact isT_same (R.each q hq) ho hd sb
  have full : t1.tooFull = false := by
    unfold SetTable.tooFull
    rw [q9, List.length_map, l63, q4, m127]
    decide
  have fin : Q true { s with heap := h1 } := hQ true h1 M1 es1 (ep + 1) t1 sb ⟨⟨_, ho1, ⟨hex.1, hex.2.1, hex.2.2⟩, rfl⟩, rows1, q3, uni1, each1, pl1, by rw [q5]; exact R.ld, by rw [len1, q4, m127]; decide⟩ (fun z => absurd z hk) fun _ => prm
  first
    | (refine wp_if_neg (by simp [full]) ?_; exact wpAny_pure fin)
    | (refine wpAny_bind ?_; refine wp_if_neg (by simp [full]) ?_; exact wpAny_pure (wpAny_pure fin))
/-- set.update's walk over a list of int tuples of which 64 at most differ -/
theorem tus_walk {I : Addr} {fp wr : List Addr} {G : Array GenState → Array GenState → Prop} {n : Nat} {Pv : Nat → Value → Prop} {St : Nat → Shared → Prop} {R : Result → Shared → Prop}
    (W : WalksS P w A.in1 I fp wr G n Pv St) (S : Addr) (ns : S ∉ fp) (ks : List (Addr × List Int)) (hn : n = ks.length) (U : List (List Int)) (hU : U.length ≤ 64) (kU : ∀ q ∈ ks, q.2 ∈ U)
    (val : ∀ i v, Pv i v → ∃ q, ks[i]? = some q ∧ v = .ref q.1) (b0 : Heap) (hk : ∀ q ∈ ks, IsT P w b0 q.2 q.1) (noS : b0.get? S = none) (now : ∀ b ∈ wr, b0.get? b = none) (hu : A.in1.units < cLine) :
    ∀ (f i : Nat) (s : Shared), n - i = f → i ≤ n → St i s → (∀ b o, b0.get? b = some o → s.heap.get? b = some o) → (∃ M es ep tb, TuS P w s.heap S M es ep tb ∧ Got ks i M) →
      (∀ s' M es ep tb, Moved (S :: wr) G s s' → TuS P w s'.heap S M es ep tb → Got ks n M → (∀ b o, b0.get? b = some o → s'.heap.get? b = some o) → R (.ok (.ret .none)) s') →
      codeAny (model P w) A (.builtin "set.update.loop" ⟨[.ref S, .ref I], []⟩) R s := by
  have nw : S ∉ wr := fun h => ns (W.sub _ h)
  have inc : ∀ b ∈ wr, b ∈ S :: wr := fun b hb => .tail _ hb
  have keep : ∀ {s s' : Shared}, Moved wr G s s' → (∀ b o, b0.get? b = some o → s.heap.get? b = some o) → ∀ b o, b0.get? b = some o → s'.heap.get? b = some o := fun m k b o e =>
    m.heap b o (fun hb => by rw [now b hb] at e; cases e) (k b o e)
  have still : ∀ {s s' : Shared} {M es ep tb} {j : Nat}, Moved wr G s s' → (∀ b o, b0.get? b = some o → s'.heap.get? b = some o) → TuS P w s.heap S M es ep tb → Got ks j M → TuS P w s'.heap S M es ep tb := fun {s s' M es ep tb j} m k T g => by
    obtain ⟨ob, ho, r⟩ := T.obj
    exact ⟨⟨ob, m.heap S _ nw ho, r⟩, T.lay, T.tab, T.uni, fun q hq => isT_keep (hk q (List.mem_of_mem_take (g.sub q hq))) k, T.pln, T.ld, T.spc⟩
  intro f
  induction f with
  | zero =>
    intro i s hf hi hst kp ⟨M, es, ep, tb, T, g⟩ hR
    obtain rfl : i = n := by omega
    refine codeAny_builtin F.entry_set_update_loop ?_
    rw [Around.under_plainId F.plain_set_update_loop _]
    show wpAny _ A.in1 (pyNext (.ref I) >>= _) _ _ s
    refine wpAny_bind (W.done s _ _ hst fun s' m => ?_)
    show wpAny _ A.in1 (ret Value.none) _ _ s'
    have kp' := keep m kp
    exact wpAny_pure (hR s' M es ep tb (m.mono inc) (still m kp' T g) g kp')
  | succ f ih =>
    intro i s hf hi hst kp ⟨M, es, ep, tb, T, g⟩ hR
    have lt : i < n := by omega
    refine codeAny_builtin F.entry_set_update_loop ?_
    rw [Around.under_plainId F.plain_set_update_loop _]
    show wpAny _ A.in1 (pyNext (.ref I) >>= _) _ _ s
    refine wpAny_bind (W.item i s _ _ lt hst fun v s' pv hst' m => ?_)
    obtain ⟨q, eq, rfl⟩ := val i v pv
    have kp' := keep m kp
    have T' := still m kp' T g
    have qk := List.mem_of_getElem? eq
    have qT : IsT P w s'.heap q.2 q.1 := isT_keep (hk q qk) kp'
    show wpAny _ A.in1 (holding [Value.ref q.1] (setAdd S (.ref q.1)) >>= _) _ _ s'
    refine wpAny_bind (wpAny_holding ?_)
    unfold setAdd
    refine wpAny_holding ?_
    refine wpAny_bind (wpAny_pyHash_tuple hu qT ?_)
    have room : q.2 ∈ M.map (·.2) ∨ M.length < 64 := by
      rcases Classical.em (q.2 ∈ M.map (·.2)) with c | c
      · exact .inl c
      · have := uni_len (q.2 :: M.map (·.2)) U (List.nodup_cons.mpr ⟨c, T.uni⟩) fun y hy => by
          rcases List.mem_cons.mp hy with e | hy
          · rw [e]
            exact kU q qk
          · obtain ⟨z, hz, e⟩ := List.mem_map.mp hy
            rw [← e]
            exact kU z (List.mem_of_mem_take (g.sub z hz))
        rw [List.length_cons, List.length_map] at this
        exact .inr (by omega)
    refine TuS.add (s := { s' with toks := s'.toks + (q.2.length + 1) }) T' qT hu room fun b h' M' es' ep' tb' sb T2 c1 c2 => ?_
    have g' : Got ks (i + 1) M' := by
      rcases Classical.em (q.2 ∈ M.map (·.2)) with c | c
      · rw [c1 c]
        exact g.same eq c
      · exact g.more eq (c2 c)
    have kp2 : ∀ b o, b0.get? b = some o → h'.get? b = some o := fun b o e => (sb.2 b (fun z => by rw [z, noS] at e; cases e)).trans (kp' b o e)
    refine wpAny_pure ⟨plainId_quiet F.plain_set_update_loop _, ih (i + 1) _ (by omega) lt (W.frame _ s' _ _ hst' (Nat.le_add_right _ _) fun b hb o e => ?_) kp2 ⟨M', es', ep', tb', T2, g'⟩ fun s2 M2 es2 ep2 tb2 m2 T3 g3 kp3 => ?_⟩
    · rw [sb.2 b (fun z : b = S => ns (by rw [← z]; exact hb))]
      exact e
    · refine hR s2 M2 es2 ep2 tb2 (Moved.trans W.gtrans ((m.mono inc).then_heap (Nat.le_add_right _ _) fun b o hb e => ?_) m2) T3 g3 kp3
      rw [sb.2 b (fun z : b = S => hb (by rw [z]; exact .head _))]
      exact e
/-- an empty set -/
abbrev setZ (w : World) : Obj := { cls := .type "set", dict := none, data := .set #[] 0 (.fresh 0 0 (!w.params.followText "set-order")) }
set_option maxHeartbeats 3200000 in
/-- set(a list) -/
theorem tus_set {l : Addr} {its : Array Value} (ks : List (Addr × List Int)) (U : List (List Int)) {Q : Value → Shared → Prop} (hh : A.handled = none) (hl : s.heap.IsList l its) (hit : its.toList = ks.map fun q => Value.ref q.1)
    (hk : ∀ q ∈ ks, IsT P w s.heap q.2 q.1) (hU : U.length ≤ 64) (kU : ∀ q ∈ ks, q.2 ∈ U) (hu : A.units + 3 < cLine)
    (fin : ∀ (h' : Heap) (tk : Nat) M es ep tb, TuS P w h' s.heap.objs.size M es ep tb → Got ks ks.length M → (∀ b o, s.heap.get? b = some o → h'.get? b = some o) → Q (.ref s.heap.objs.size) { s with heap := h', toks := tk }) :
    wpAny (model P w) A (call (.type "set") [.ref l]) Q E s := by
  have isz : its.size = ks.length := by
    have e := congrArg List.length hit
    simpa using e
  obtain ⟨c, tl, hmro⟩ := F.called_set.mro
  have hmade := F.called_set.made
  have hsub := F.called_set.sub
  refine wpAny_call (codeAny_of_tree ?_)
  show wpAny _ _ (callAny (.type "set") _) _ _ _
  refine wpAny_pure ⟨Code.quiet_builtin _ (by decide +kernel), codeAny_builtin F.entry_type_call ?_⟩
  rw [Around.under_plain (weight_type_call_type "set" [.ref l] []) rfl]
  have h1 := F.called_set.notType
  have h2 := F.called_set.canCreate
  have hct := F.typeCall_set_1 (.ref l)
  repeat (any_goals (first | assumption | wp_step))
  refine codeAny_mono (code_set_led1 (.ref l) (E := E) (Q₁ := fun v s₁ => v = .ref s.heap.objs.size ∧ s₁ = { s with heap := s.heap.push (setZ w) }) ⟨rfl, rfl⟩) fun r s₁ hr => ?_
  cases r with
  | error e => exact hr
  | ok fl =>
    cases fl with
    | ret v =>
      obtain ⟨rfl, rfl⟩ := hr
      have atS : (s.heap.push (setZ w)).get? s.heap.objs.size = some (setZ w) := Heap.get?_push_size _ rfl
      have isS : Shared.TypeIs { s with heap := s.heap.push (setZ w) } (.ref s.heap.objs.size) "set" := ⟨_, atS, rfl⟩
      have hli := F.called_set.init.lookup
      have hbi := F.called_set.init.bind (.ref s.heap.objs.size)
      repeat (any_goals (first | assumption | wp_step))
      refine codeAny_mono (codeAny_call_builtin (R := wants (fun r s₂ => r = .none ∧ ∃ h' tk M es ep tb, s₂ = { s with heap := h', toks := tk } ∧ TuS P w h' s.heap.objs.size M es ep tb ∧ Got ks ks.length M ∧
          (∀ b o, s.heap.get? b = some o → h'.get? b = some o)) E) F.called_set.init.plain F.entry_set_init (check_set_init_1 isS ?_)) fun r₂ s₂ hr₂ => ?_
      · obtain ⟨ol, hol, hcl, nl, hdl⟩ := hl
        obtain ⟨ocls, odict, odata, oslots⟩ := ol
        simp only at hcl hdl
        subst hcl; subst hdl
        have hol' : (s.heap.push (setZ w)).get? l = some { cls := .type "list", dict := odict, data := .seq its nl, slots := oslots } := Heap.get?_push_of_some _ hol
        have hsls := F.sub_list_set
        have hslf := F.sub_list_frozenset
        have hne : (Value.type "list" == Value.type "dict") = false := by decide
        have hl1 : (s.heap.push (setZ w)).IsList l its := ⟨_, hol', rfl, nl, rfl⟩
        unfold Builtin.«set.__init__» noKeywords Builtin.Frozenset.updateFrom
        generalize hPI : pyIter = PI
        wp_walk
        subst hPI
        refine wpAny_pyIter_list hl1 ?_
        refine wpAny_bind (wpAny_runValue ?_)
        have ltl : l < s.heap.objs.size := Heap.lt_size hol
        have h3 : A.in1.in1.in1.handled = none := by simp [hh]
        have neI : l ≠ (s.heap.push (setZ w)).objs.size := by
          rw [Heap.size_push]
          exact Nat.ne_of_lt (Nat.lt_succ_of_lt ltl)
        have nS : s.heap.objs.size ∉ [(s.heap.push (setZ w)).objs.size, l] := by
          rw [Heap.size_push]
          intro hm
          rcases List.mem_cons.mp hm with e | hm
          · exact Nat.ne_of_lt (Nat.lt_succ_self _) e
          · exact Nat.ne_of_lt ltl (List.mem_singleton.mp hm).symm
        have val : ∀ (i : Nat) (v : Value), its[i]? = some v → ∃ q, ks[i]? = some q ∧ v = .ref q.1 := fun i v hv => by
          have e : its.toList[i]? = some v := by rw [Array.getElem?_toList]; exact hv
          rw [hit, List.getElem?_map] at e
          obtain ⟨q, h1, h2⟩ := Option.map_eq_some_iff.mp e
          exact ⟨q, h1, h2.symm⟩
        have none_at : ∀ b, s.heap.objs.size ≤ b → s.heap.get? b = none := fun b hb => by
          cases e : s.heap.get? b with
          | none => rfl
          | some o => exact absurd (Nat.lt_of_lt_of_le (Heap.lt_size e) hb) (Nat.lt_irrefl _)
        refine tus_walk ((Walks.list h3 _ l neI its).toS) s.heap.objs.size nS ks isz U hU kU val s.heap hk (none_at _ (Nat.le_refl _)) (fun b hb => none_at b (by
            rw [List.mem_singleton.mp hb, Heap.size_push]
            exact Nat.le_succ _)) hu (its.size - 0) 0 _ (by omega) (Nat.zero_le _)
          ⟨⟨_, Heap.get?_push_size _ rfl, rfl, rfl⟩, (hl1.push _)⟩ (fun b o e => Heap.get?_push_of_some _ (Heap.get?_push_of_some _ e)) ?emp ?out
        case emp =>
          have at2 : ((s.heap.push (setZ w)).push { cls := .type "list_iterator", data := .fields #[.ref l, .int 0 0] }).get? s.heap.objs.size = some (setZ w) := Heap.get?_push_of_some _ atS
          exact ⟨[], #[], 0, _, TuS.of (s := { s with heap := _ }) (setTR_fresh at2), Got.zero ks⟩
        case out =>
          intro s' M es ep tb m T g kp
          obtain ⟨h', g2, d2, tk2, os2⟩ := s'
          obtain rfl : g2 = s.gens := m.gens
          obtain rfl : d2 = s.drawn := m.drawn
          obtain rfl : os2 = s.os := m.os
          show wpAny _ _ _ _ _ _
          refine wpAny_pure ?_
          show wpAny _ _ (ret Value.none) _ _ _
          rw [isz] at g
          exact wpAny_pure ⟨rfl, h', tk2, M, es, ep, tb, rfl, T, g, kp⟩
      · cases r₂ with
        | error e => exact hr₂
        | ok fl₂ =>
          cases fl₂ with
          | ret r =>
            obtain ⟨rfl, h', tk, M, es, ep, tb, rfl, T, g, kp⟩ := hr₂
            repeat (any_goals (first | assumption | wp_step))
            exact fin _ _ _ _ _ _ T g kp
          | _ => exact hr₂.elim
    | _ => exact hr.elim
end
end Om
end PartRu8
section PartRu9
set_option Elab.async false
set_option linter.all false
set_option maxRecDepth 100000
namespace Om
open PySem PySem.Spec PyProof.Rows L2
section
variable {P : Program} {w : World} {A : Around} {E : Value → Shared → Prop} {s : Shared}
variable {a : Addr} {M : List (Addr × List Int)} {es : Array (Int × Value)} {ep : Nat} {tb : SetTable}
theorem reads_ints {h : Heap} : ∀ {vs : List Value} {k : List Int}, IntsAre vs k → PySem.ReadsAll h vs (k.map PyData.int) []
  | _, _, .nil => .nil
  | _, _, .cons n t r => .cons (as := []) (.int n t) (reads_ints r)
theorem reads_tup {h : Heap} {q : Addr × List Int} (x : IsT P w h q.2 q.1) : PySem.Reads h (.ref q.1) (.tuple (q.2.map PyData.int)) [] := by
  obtain ⟨o, its, n, ho, hc, hd, hi⟩ := x
  exact .tuple ho hc hd (reads_ints (ints_of_items hi))
theorem each_refs {R : Value → (Addr × List Int) → Prop} : ∀ (L : List (Addr × List Int)), (∀ q ∈ L, R (.ref q.1) q) → PySem.W.EachIs R (L.map fun q => Value.ref q.1) L
  | [], _ => .nil
  | q :: L, h => .cons (h q (.head _)) (each_refs L fun z hz => h z (.tail _ hz))
theorem each_out : ∀ {vs : List Value} {L : List (Addr × List Int)}, PySem.W.EachIs (fun v q => v = Value.ref q.1) vs L → vs = L.map fun q => Value.ref q.1
  | _, _, .nil => rfl
  | _, _, .cons e t => by rw [e, each_out t]; rfl
theorem vals_rows : ∀ (vs : List Value) (L : List (Addr × List Int)), (∀ v ∈ vs, ∃ q ∈ L, v = Value.ref q.1) → ∃ L1 : List (Addr × List Int), vs = L1.map (fun q => Value.ref q.1) ∧ ∀ q ∈ L1, q ∈ L
  | [], _, _ => ⟨[], rfl, fun q hq => by cases hq⟩
  | v :: vs, L, h => by
    obtain ⟨q, hq, e⟩ := h v (.head _)
    obtain ⟨L1, e1, s1⟩ := vals_rows vs L fun u hu => h u (.tail _ hu)
    refine ⟨q :: L1, by rw [e, e1]; rfl, fun z hz => ?_⟩
    rcases List.mem_cons.mp hz with c | c
    · rw [c]
      exact hq
    · exact s1 z c
/-- sorted(a set of int tuples) -/
theorem tus_sorted {Q : Value → Shared → Prop} (T : TuS P w s.heap a M es ep tb) (hh : A.handled = none) (hu : A.units + 64 < cLine) {d : Nat} (hd : ∀ q ∈ M, q.2.length = d + 1)
    (hQ : ∀ s' p (out : Array Value) (c : Nat) (L' : List (Addr × List Int)), (∀ b o, s.heap.get? b = some o → s'.heap.get? b = some o) → s'.gens = s.gens → s'.os = s.os → s.heap.objs.size ≤ p →
      s'.heap.get? p = some (seqObj "list" out c) → out.toList = L'.map (fun q => Value.ref q.1) → (∀ q ∈ L', q ∈ M) → L'.length = M.length → Q (.ref p) s') :
    wpAny (model P w) A (call (.builtin "sorted") [.ref a]) Q E s := by
  obtain ⟨ob, ho, hex, hdt⟩ := T.obj
  have sz := T.sz
  have few : M.length ≤ 76 := by
    have := T.spc
    rcases T.tab.mok with e | e | e <;> omega
  refine Calls.call_function_entry kind_sorted plain_sorted entry_sorted (args_sorted1 _) ?_
  unfold Builtin.«sorted»
  refine wpAny_bind (m := checkCount "sorted" 1 1 _) (wpAny_pure ?_)
  refine wpAny_bind (collect_set (A := A.in1) hh ⟨ob, ho, hex.1, hdt⟩ T.fit (by unfold scanBound; omega) T.tab.ris T.ld fun s1 vs k1 hz g1 o1 pm => ?_)
  have hes : es.toList.map (·.2) = M.map fun q => Value.ref q.1 := by
    rw [T.lay]
    simp [rowsOf]
  rw [hes] at pm
  obtain ⟨L1, e1, s1L⟩ := vals_rows vs M fun v hv => by
    obtain ⟨q, hq, e⟩ := List.mem_map.mp (pm.mem_iff.mp hv)
    exact ⟨q, hq, e.symm⟩
  have len1 : L1.length = M.length := by
    have := pm.length_eq
    rw [e1, List.length_map, List.length_map] at this
    exact this
  refine wpAny_bind (wpAny_newList ?_ (by rw [e1, List.length_map, len1, sizeLine_eq]; omega))
  have atL : (s1.heap.push (seqObj "list" vs.toArray 0)).get? s1.heap.objs.size = some (seqObj "list" vs.toArray 0) := Heap.get?_push_size _ rfl
  have rd : ∀ q ∈ L1, PySem.Reads (s1.heap.push (seqObj "list" vs.toArray 0)) (.ref q.1) (.tuple (q.2.map PyData.int)) [] := fun q hq =>
    reads_tup (P := P) (w := w) (isT_keep (T.each q (s1L q hq)) fun b u e => Heap.get?_push_of_some _ (k1 b u e))
  have ev : PySem.W.EachIs (fun v q => v = Value.ref q.1) vs L1 := by
    rw [e1]
    exact each_refs L1 fun _ _ => rfl
  have ed : PySem.W.EachIs (fun v q => ∃ as, PySem.Reads (s1.heap.push (seqObj "list" vs.toArray 0)) v ((fun q : Addr × List Int => PyData.tuple (q.2.map PyData.int)) q) as ∧ s1.heap.objs.size ∉ as) vs L1 := by
    generalize s1.heap.push (seqObj "list" vs.toArray 0) = hh at rd ⊢
    rw [e1]
    exact each_refs L1 fun q hq => ⟨[], rd q hq, by simp⟩
  refine wpAny_bind (wpAny_holding (PySem.W.list_sort_data (s := { s1 with heap := s1.heap.push (seqObj "list" vs.toArray 0) }) atL ev ed (.of fun b b' => ?_) (.inl fun x hx => ?_) (by rw [len1, sizeLine_eq]; omega) (fun b hb => ?_) fun out ol eo => ?_))
  · show PySem.W.alike (.tuple _) (.tuple _) = true
    rw [PySem.W.alike]
    exact PySem.W.alike_ints _ _
  · obtain ⟨q, hq, rfl⟩ := List.mem_map.mp hx
    have := hd q (s1L q hq)
    obtain ⟨n, r, e⟩ : ∃ n r, q.2 = n :: r := by
      cases h : q.2 with
      | nil => rw [h] at this; cases this
      | cons n r => exact ⟨n, r, rfl⟩
    exact ⟨.int n, r.map .int, by show PyData.tuple (q.2.map PyData.int) = _; rw [e]; rfl⟩
  · have : PyData.depth (.tuple (b.2.map PyData.int)) ≤ 1 := by
      rw [PyData.depth, PySem.W.depth_ints]
      omega
    show A.in1.units + 1 + PyData.depth (.tuple (b.2.map PyData.int)) < cLine
    have e : A.in1.units = A.units + 1 := rfl
    omega
  obtain ⟨c, hc⟩ := sortedHeap_at (vs := vs) (out := out.toArray) atL
  refine wpAny_pure ⟨_, rfl, hQ _ s1.heap.objs.size out.toArray c _ (fun b u e => ?_) g1 o1 hz hc (by rw [each_out eo]) (fun q hq => ?_) ?_⟩
  · have q := k1 b u e
    have hlt := Heap.lt_size q
    show (sortedHeap (s1.heap.push (seqObj "list" vs.toArray 0)) s1.heap.objs.size vs out.toArray).get? b = some u
    rw [sortedHeap_old (Nat.ne_of_lt hlt) (by rw [size_push']; exact Nat.lt_succ_of_lt hlt)]
    exact Heap.get?_push_of_some _ q
  · exact s1L q ((List.mergeSort_perm _ _).mem_iff.mp hq)
  · rw [(List.mergeSort_perm _ _).length_eq, len1]
end
/-! the layer's rules -/
def TuSO (P : Program) (w : World) (a : Addr) (M : List (Addr × List Int)) : HO := .ext fun h => ∃ (es : Array (Int × Value)) (ep : Nat) (tb : SetTable), (∃ ob, h.get? a = some ob ∧ ob.ExactSet ∧ ob.data = .set es ep tb) ∧ es.toList = rowsOf P w M ∧ TabOk tb (M.map fun q => thash P w q.2) ∧
  (M.map (·.2)).Nodup ∧ tb.plain = true ∧ (w.params.followText "set-order" = true ∨ tb.led = true) ∧ M.length * 5 < tb.mask * 3
theorem tusO_new {P : Program} {w : World} {H : Hp} {h : Heap} {a : Addr} {M : List (Addr × List Int)} {es : Array (Int × Value)} {ep : Nat} {tb : SetTable} (T : TuS P w h a M es ep tb) : ObjOk P w H h a (TuSO P w a M) := by
  obtain ⟨ob, ho, r⟩ := T.obj
  refine ⟨⟨es, ep, tb, ⟨ob, ho, r⟩, T.lay, T.tab, T.uni, T.pln, T.ld, T.spc⟩, ⟨ob, ho⟩, fun h1 h2 p k => ?_⟩
  obtain ⟨es', ep', tb', ⟨o', ho', r'⟩, q'⟩ := p
  exact ⟨es', ep', tb', ⟨o', k o' ho', r'⟩, q'⟩
section
variable {X : Cx}
/-- set(a list of int tuples), 64 at most differ -/
def rTus (K : PySem.W.Frag) (P : Program) (w : World) : List V → Hp → VK → Prop := fun xs H Q => ∃ (l : Addr) (ks : List (Addr × List Int)) (U : List (List Int)), xs = [V.ref l] ∧ SqL K H l (ks.map fun q => V.ref q.1) ∧ (∀ q ∈ ks, SqT K H q.1 (q.2.map V.int)) ∧
  U.length ≤ 64 ∧ (∀ q ∈ ks, q.2 ∈ U) ∧ ∀ a M, H a = none → (∀ q ∈ M, q ∈ ks) → Q (.ref a) (upd H a (TuSO P w a M))
theorem cr_tus (hc : X.calm = true) (hu : X.A.units + 64 < cLine) : CallR X (.type "set") (rTus X.K X.prog X.w) := by
  intro pins s σ H xs us Q I r h
  obtain ⟨l, ks, U, rfl, hl, hk, hU, kU, q⟩ := h
  rw [Vals.ref1 r]
  obtain ⟨its, rv, pl, hz⟩ := I.list hl
  have hn : H s.heap.objs.size = none := I.hok.fresh (Nat.le_refl _)
  have hA : X.A.handled = none := I.ok.hd hc
  have hit : its.toArray.toList = ks.map fun q => Value.ref q.1 := by simpa using refs_of_vals rv
  have hk' : ∀ p ∈ ks, IsT X.prog X.w s.heap p.2 p.1 := fun p hp => I.isT (hk p hp)
  have h3 : X.A.units + 3 < cLine := by omega
  refine tus_set (P := X.prog) (w := X.w) (A := X.A) ks U hA pl.isList hit hk' hU kU h3 ?_
  intro h' tk M es ep tb T g k
  refine ⟨.ref s.heap.objs.size, upd H s.heap.objs.size (TuSO X.prog X.w s.heap.objs.size M), I.laid (t' := tk) k (Nat.le_refl _) (tusO_new T), rfl, q _ M hn fun p hp => ?_⟩
  exact List.mem_of_mem_take (g.sub p hp)
/-- sorted(such a set) -/
def rTusSorted (K : PySem.W.Frag) (P : Program) (w : World) : List V → Hp → VK → Prop := fun vs H Q => ∃ (a : Addr) (M : List (Addr × List Int)) (d : Nat), vs = [V.ref a] ∧ H a = some (TuSO P w a M) ∧ (∀ q ∈ M, SqT K H q.1 (q.2.map V.int) ∧ q.2.length = d + 1) ∧
  ∀ (L : List (Addr × List Int)) (p : Addr), (∀ q ∈ L, q ∈ M) → L.length ≤ 76 → H p = none → Q (.ref p) (upd H p (.lst (L.map fun q => V.ref q.1)))
set_option maxHeartbeats 2000000 in
theorem cr_tusSorted (hc : X.calm = true) (hu : X.A.units + 64 < cLine) : CallR X (.builtin "sorted") (rTusSorted X.K X.prog X.w) := by
  intro pins s σ H vs us Q I r h
  obtain ⟨a, M, d, rfl, ha, hk, q⟩ := h
  obtain ⟨es, ep, tb, h1, h2, h3, h4, h5, h6, h7⟩ : ∃ (es : Array (Int × Value)) (ep : Nat) (tb : SetTable), (∃ ob, s.heap.get? a = some ob ∧ ob.ExactSet ∧ ob.data = .set es ep tb) ∧ es.toList = rowsOf X.prog X.w M ∧ TabOk tb (M.map fun q => thash X.prog X.w q.2) ∧
    (M.map (·.2)).Nodup ∧ tb.plain = true ∧ (X.w.params.followText "set-order" = true ∨ tb.led = true) ∧ M.length * 5 < tb.mask * 3 := (I.hok a _ ha).1
  have T : TuS X.prog X.w s.heap a M es ep tb := ⟨h1, h2, h3, h4, fun p hp => I.isT (hk p hp).1, h5, h6, h7⟩
  have few : M.length ≤ 76 := by
    rcases h3.mok with e | e | e <;> omega
  rw [Vals.ref1 r]
  refine tus_sorted T (I.ok.hd hc) hu (fun p hp => (hk p hp).2) fun s' p out c L' k g o hp hg hout hs hlen => ?_
  have hl : (L'.map fun q => V.ref q.1).length ≤ sizeLine := by
    rw [List.length_map, sizeLine_eq]
    omega
  have hn : H p = none := I.hok.fresh hp
  have hv : Vals (L'.map fun q => V.ref q.1) out.toList := by
    rw [hout]
    exact vals_of_refs L'
  have J : Inv X pins σ (upd H p (.lst (L'.map fun q => V.ref q.1))) { s with heap := s'.heap, gens := s'.gens, drawn := s'.drawn, toks := s'.toks } :=
    I.call (ch := []) (Un.laid k hp hn) (I.hok.laid k hp ⟨hl, out.toList, c, hv, hg⟩) (by rw [g]; exact I.bare) (fun _ z => nomatch z)
  have es' : s' = { s with heap := s'.heap, gens := s'.gens, drawn := s'.drawn, toks := s'.toks } := by
    cases s'
    cases s
    cases o
    rfl
  rw [es']
  exact ⟨.ref p, _, J, rfl, q L' p hs (by rw [hlen]; exact few) hn⟩
end
end Om
end PartRu9
section PartC6h
set_option Elab.async false
set_option linter.all false
set_option maxRecDepth 100000
set_option maxHeartbeats 400000
namespace Om
open PySem PySem.Spec PyProof.Rows L2 He TL
theorem kPi {X : Cx} {K : Frg} {tg e : Expr} {wi : Frg → TI} (hK : X.K = K) (h : PI X tg e (wi X.K)) : PI X tg e (wi K) := hK ▸ h
theorem dps_drop {K : Frg} {H : Hp} : ∀ (n : Nat) {xs : List V} {ds : List PyData}, DpAll K H xs ds → DpAll K H (xs.drop n) (ds.drop n)
  | 0, _, _, h => h
  | n + 1, _, _, .nil => .nil
  | n + 1, _, _, .cons _ t => dps_drop n t
theorem dps_take {K : Frg} {H : Hp} : ∀ (n : Nat) {xs : List V} {ds : List PyData}, DpAll K H xs ds → DpAll K H (xs.take n) (ds.take n)
  | 0, _, _, _ => .nil
  | n + 1, _, _, .nil => .nil
  | n + 1, _, _, .cons h t => .cons h (dps_take n t)
/-- a part of a list of int tuples -/
theorem cutL {K : Frg} {H : Hp} {a : Addr} {ls : List (List Int)} {lo hi : Option Int} {Q : VK} (h : NewL K H a (ls.map tupI)) (k : ∀ (p : Addr) (H1 : Hp) (ls' : List (List Int)), Ex H H1 → NewL K H1 p (ls'.map tupI) → (∀ l ∈ ls', l ∈ ls) → ls'.length ≤ ls.length → Q (.ref p) H1) : rSlL K (.ref a) lo hi H Q := by
  obtain ⟨xs, h1, h2, h3⟩ := h
  refine ⟨a, xs, rfl, .of h1, fun p hp => ?_⟩
  refine k p _ ((ls.drop (HT.sIx xs.length 0 lo)).take (HT.sIx xs.length xs.length hi - HT.sIx xs.length 0 lo)) (ex_new hp) ⟨_, upd_same, ?_, tupIs_ok _⟩ (fun l hl => List.mem_of_mem_drop (List.mem_of_mem_take hl)) ?_
  · rw [List.map_take, List.map_drop]
    exact dps_ex (ex_new hp) (dps_take _ (dps_drop _ h2))
  · rw [List.length_take, List.length_drop]
    omega
/-- item i of such a list -/
theorem NewL.at {K : Frg} {H : Hp} {p : Addr} {ls : List (List Int)} {xs : List V} {i : Nat} {x : V} (h : NewL K H p (ls.map tupI)) (hx : H p = some (.lst xs)) (e : xs[i]? = some x) : ∃ a l, x = .ref a ∧ l ∈ ls ∧ SqT K H a (l.map V.int) := by
  obtain ⟨ys, h1, h2, h3⟩ := h
  rw [h1] at hx
  cases hx
  have hi : i < (ls.map tupI).length := by rw [← dps_len h2]; exact (List.getElem?_eq_some_iff.mp e).1
  rw [List.length_map] at hi
  obtain ⟨y, e2, dy⟩ := dps_at h2 (show (ls.map tupI)[i]? = some (tupI ls[i]) by rw [List.getElem?_map, List.getElem?_eq_getElem hi]; rfl)
  rw [e] at e2
  cases e2
  obtain ⟨a, rfl, s⟩ := dp_tupI_inv dy
  exact ⟨a, _, rfl, List.getElem_mem hi, s⟩
theorem NewL.sq {K : Frg} {H : Hp} {p : Addr} {ds : List PyData} (h : NewL K H p ds) : ∃ xs, H p = some (.lst xs) ∧ xs.length = ds.length := by
  obtain ⟨xs, h1, h2, _⟩ := h
  exact ⟨xs, h1, dps_len h2⟩
/-- the tuples' places -/
theorem rows_of {K : Frg} {H : Hp} : ∀ {ls : List (List Int)} {xs : List V}, DpAll K H xs (ls.map tupI) → ∃ ks : List (Addr × List Int), xs = ks.map (fun q => V.ref q.1) ∧ ks.map (·.2) = ls ∧ ∀ q ∈ ks, SqT K H q.1 (q.2.map V.int)
  | [], _, .nil => ⟨[], rfl, rfl, fun q h => by cases h⟩
  | l :: ls, _, .cons h t => by
    obtain ⟨a, rfl, s⟩ := dp_tupI_inv h
    obtain ⟨ks, e1, e2, e3⟩ := rows_of t
    refine ⟨(a, l) :: ks, by rw [e1]; rfl, by rw [← e2]; rfl, fun q hq => ?_⟩
    rcases List.mem_cons.mp hq with c | c
    · rw [c]
      exact s
    · exact e3 q c
theorem dps_rows {K : Frg} {H : Hp} : ∀ (ks : List (Addr × List Int)), (∀ q ∈ ks, SqT K H q.1 (q.2.map V.int)) → DpAll K H (ks.map fun q => V.ref q.1) ((ks.map (·.2)).map tupI)
  | [], _ => .nil
  | q :: ks, h => .cons (dp_tupI (h q (.head _))) (dps_rows ks fun z hz => h z (.tail _ hz))
def allS : List (List Int) := (List.range 64).map fun n => [((n / 16 : Nat) : Int), ((n / 4 % 4 : Nat) : Int), ((n % 4 : Nat) : Int)]
theorem allS_mem {hi wi : Nat} (h1 : hi ≤ 4) (h2 : wi ≤ 4) {l : List Int} (h : stB hi wi l) : l ∈ allS := by
  obtain ⟨i, j, f, rfl, a1, a2, a3, a4, a5, a6⟩ := h
  refine List.mem_map.mpr ⟨(16 * i + 4 * j + f).toNat, List.mem_range.mpr (by omega), ?_⟩
  have e1 : (((16 * i + 4 * j + f).toNat / 16 : Nat) : Int) = i := by omega
  have e2 : (((16 * i + 4 * j + f).toNat / 4 % 4 : Nat) : Int) = j := by omega
  have e3 : (((16 * i + 4 * j + f).toNat % 4 : Nat) : Int) = f := by omega
  rw [e1, e2, e3]
theorem allS_len : allS.length = 64 := by simp [allS]
/-- sorted(set(states)) -/
theorem setS {K : Frg} {w : World} {H : Hp} {p : Addr} {hi wi : Nat} {ls : List (List Int)} {Q : VK} (h1 : hi ≤ 4) (h2 : wi ≤ 4) (h : NewL K H p (ls.map tupI)) (hl : ∀ l ∈ ls, stB hi wi l)
    (k : ∀ (r : Addr) (H1 : Hp) (ls' : List (List Int)), Ex H H1 → NewL K H1 r (ls'.map tupI) → (∀ l ∈ ls', stB hi wi l) → ls'.length ≤ 76 → Q (.ref r) H1) : rTus K prg w [.ref p] H fun x H1 => rTusSorted K prg w [x] H1 Q := by
  obtain ⟨xs, e1, e2, e3⟩ := h
  obtain ⟨ks, rfl, k2, k3⟩ := rows_of e2
  have km : ∀ q ∈ ks, q.2 ∈ ls := fun q hq => by
    rw [← k2]
    exact List.mem_map.mpr ⟨q, hq, rfl⟩
  refine ⟨p, ks, allS, rfl, .of e1, k3, by rw [allS_len]; exact Nat.le_refl _, fun q hq => allS_mem h1 h2 (hl _ (km q hq)), fun a M ha hM => ?_⟩
  have xa := ex_new (o := TuSO prg w a M) ha
  refine ⟨a, M, 2, rfl, upd_same, fun q hq => ⟨Evl.ex_t xa (k3 q (hM q hq)), ?_⟩, fun L r hL hz hr => ?_⟩
  · obtain ⟨i, j, f, e, _⟩ := hl _ (km q (hM q hq))
    rw [e]
    rfl
  · have xr := ex_new (o := .lst (L.map fun q => V.ref q.1)) hr
    refine k r _ (L.map (·.2)) (xa.trans xr) ⟨_, upd_same, dps_rows L fun q hq => Evl.ex_t (xa.trans xr) (k3 q (hM q (hL q hq))), tupIs_ok _⟩ (fun l hlm => ?_) (by rw [List.length_map]; exact hz)
    obtain ⟨q, hq, rfl⟩ := List.mem_map.mp hlm
    exact hl _ (km q (hM q (hL q hq)))
theorem sign_gsn {rows : List Str} {wd : Nat} (ok : RowsOk rows wd) (i j : Int) : signAt rows i j ∈ gsn := by
  by_cases h : signAt rows i j = 126
  · rw [h]
    decide
  · obtain ⟨a1, a2, a3, a4⟩ := sign_in ok h
    unfold signAt at h ⊢
    split at h
    · rename_i c
      rw [if_pos c]
      have hi : i.toNat < rows.length := by omega
      have eg : rows.getD i.toNat Str.empty = rows[i.toNat] := by rw [List.getD_eq_getElem?_getD, List.getElem?_eq_getElem hi]; rfl
      have hm : rows[i.toNat] ∈ rows := List.getElem_mem hi
      rw [eg]
      have hj : j.toNat < (tl rows[i.toNat]).length := by rw [ok.len _ hm]; omega
      rw [List.getD_eq_getElem?_getD, List.getElem?_eq_getElem hj]
      exact ok.sg _ hm _ (List.getElem_mem hj)
    · exact absurd rfl h
theorem one_ok {c : Nat} (h : c ∈ gsn) : PyData.strOk (oneS c) = true := by
  have : ∀ c ∈ gsn, PyData.strOk (oneS c) = true := by decide +kernel
  exact this c h
/-- [x] * 1 or [x] * 0 -/
theorem repL {K : Frg} {H : Hp} {l : Addr} {x : V} {kb : Bool} {P : List Int → Prop} {Q : VK} (hl : H l = some (.lst [x])) (hx : kb = true → ∃ a ll, x = .ref a ∧ SqT K H a (ll.map V.int) ∧ P ll)
    (k : ∀ (p : Addr) (H1 : Hp) (ls : List (List Int)), Ex H H1 → NewL K H1 p (ls.map tupI) → (∀ l ∈ ls, P l) → ls.length ≤ 1 → Q (.ref p) H1) : rRep (.ref l) (.int (if kb = true then 1 else 0)) H Q := by
  cases kb with
  | true =>
    obtain ⟨a, ll, rfl, s, hp⟩ := hx rfl
    exact ⟨l, 1, [.ref a], rfl, rfl, hl, by decide, by decide, Evl.sz_of (by simp), fun p hp2 => k p _ [ll] (ex_new hp2) ⟨[.ref a], upd_same, .cons (dp_tupI (Evl.ex_t (ex_new hp2) s)) .nil, tupIs_ok _⟩ (fun l hl => by rw [List.mem_singleton.mp hl]; exact hp) (Nat.le_refl _)⟩
  | false => exact ⟨l, 0, [x], rfl, rfl, hl, by decide, by decide, Evl.sz_of (by simp), fun p hp2 => k p _ [] (ex_new hp2) ⟨[], upd_same, .nil, rfl⟩ (fun l hl => by cases hl) (Nat.zero_le _)⟩
end Om
end PartC6h
section PartC6
set_option Elab.async false
set_option linter.all false
set_option maxRecDepth 100000
set_option maxHeartbeats 400000
namespace Om
open PySem PySem.Spec PyProof.Rows L2 He TL
/-- a text of drawn signs -/
def SgT (s : Str) : Prop := PyData.strOk s = true ∧ s.cps.size ≤ 5 ∧ ∀ c ∈ tl s, c ∈ gsn
/-- an instruction as drawn -/
inductive InsG : List PyData → Prop
  | turn (ts : List Int) : ts.length ≤ 4 → (∀ t ∈ ts, 0 ≤ t ∧ t < 4) → InsG [.str "turn", intsD ts]
  | walk (a b : Int) : 0 ≤ a → a ≤ 2 → a ≤ b → b ≤ 4 → InsG [.str "walk", .int a, .int b]
  | untl (s : Str) : SgT s → InsG [.str "until", .str s]
  | towd (s : Str) : SgT s → InsG [.str "toward", .str s]
  | besd (d : Int) (s : Str) : 0 ≤ d → d < 4 → SgT s → InsG [.str "beside", .int d, .str s]
  | near (s : Str) (m : Int) : SgT s → 0 ≤ m → m < 4 → InsG [.str "near", .str s, .int m]
  | shor (sd a b : Int) : 0 ≤ sd → sd ≤ 3 → 0 ≤ a → a ≤ 2 → a ≤ b → b ≤ 4 → InsG [.str "shore", .int sd, .int a, .int b]
section
variable {w : World} {K : Frg} {mg : Str → Option Value} {base : Heap}
/-- _law_steps -/
def sp__law_steps (K : Frg) : Sp := fun vs H Q _ => ∃ (ra sa ia : Addr) (rows : List Str) (wd : Nat) (l : List Int) (ds : List PyData), vs = [.ref ra, .ref sa, .ref ia] ∧ SqT K H ra (rows.map V.str) ∧ RowsOk rows wd ∧ SqT K H sa (l.map V.int) ∧ stB rows.length wd l ∧
  Dp K H (.ref ia) (.tuple ds) ∧ InsG ds ∧ ∀ (p : Addr) (H' : Hp) (ls : List (List Int)), Ex H H' → NewL K H' p (ls.map tupI) → (∀ l ∈ ls, stB rows.length wd l) → ls.length ≤ 76 → Q (.ref p) H'
theorem sc__law_steps : FnScope ["_law_rows_here", "_law_state", "_law_instruction", "_law_word", "_law_cell", "_law_facing", "_law_found", "_law_ahead_cells", "_law_free", "_law_line_here", "_law_side", "_law_seen_here", "_law_down", "_law_right", "_law_paces", "_law_k", "_law_one_here", "_law_turn"] ["_law_rows_here", "_law_state", "_law_instruction"] (defScope s__law_steps) := ⟨rfl, rfl, rfl, by decide +kernel, rfl, by decide +kernel, by decide +kernel⟩
theorem ok__law_steps (T : Tx w K mg) : FnOk prg w K mg base CX0 3 (ga K "_law_steps") (fdOf K (ga K "_law_steps")) ["_law_rows_here", "_law_state", "_law_instruction"] (sp__law_steps K) := by
  refine T.f__law_steps.ok sc__law_steps (fun vs H Q E h => ?_) (fun cdv A outer s H vs Q E hr h => ?_)
  · obtain ⟨ra, sa, ia, rows, wd, l, ds, rfl, _⟩ := h
    rfl
  · obtain ⟨ra, sa, ia, rows, wd, l, ds, rfl, hr0, ok, hs, st, hi, ig, q⟩ := h
    refine ⟨_, PSs.nox (pss_cons (ps_asg (pe_tup (pa_cons (pe_ix ix_tup (pv 2) pe_int (fun _ _ => rfl)) (pa_cons (pe_slice sl_tupA (pv 1) po_none (po_some pe_int)) (pa_cons (pe_ix ix_tup (pv 1) pe_int (fun _ _ => rfl)) (pa_cons (pe_lst pa_nil) pa_nil))))) (pg_tup rfl (pgs_cons (pg_name (i := 3) sc__law_steps.nd rfl (Or.inl rfl)) (pgs_cons (pg_name (i := 4) sc__law_steps.nd rfl (Or.inr rfl)) (pgs_cons (pg_name (i := 5) sc__law_steps.nd rfl (Or.inr rfl)) (pgs_cons (pg_name (i := 6) sc__law_steps.nd rfl (Or.inl rfl)) pgs_nil))))))
      (pss_cons (ps_set (i := 7) sc__law_steps.nd rfl (Or.inr rfl) (pe_call (ok__law_line T) (hr.mono (by decide)) (by rfl) T.g__law_line T.f__law_line.kp T.p__law_line .nil pass0 (pa_cons (pv 0) (pa_cons (pv 4) (pa_cons (pv 5) pa_nil)))))
      (pss_cons (ps_setLc (i := 8) (own := [("_law_k", 15)]) (g := gName 15) rfl sc__law_steps.nd rfl rfl (sw_true rfl rfl rfl (by decide +kernel)) (pi_range1 (by rfl) T.b_range (pa_cons (pe_callB call_len_seq (by rfl) T.b_len PySem.boot_len (pa_cons (pv 7) pa_nil)) pa_nil)) (blkOk_by (own := [("_law_k", 15)]) (N := ["_law_rows_here", "_law_state", "_law_instruction", "_law_word", "_law_cell", "_law_facing", "_law_found", "_law_ahead_cells", "_law_free", "_law_line_here", "_law_side", "_law_seen_here", "_law_down", "_law_right", "_law_paces", "_law_k", "_law_one_here", "_law_turn"]) (sc := defScope s__law_steps) (by decide +kernel)) (fun _ _ _ _ _ => pg_name (i := 15) sc__law_steps.nd rfl (Or.inl rfl)) (fun _ _ _ _ _ => pts_one (pt_cmpR (kOp (K := K) (r := fun K => rIn K false) rfl op_in_seq) pe_str (pe_lc (own := [("_law_one_here", 16)]) (g := gName 16) rfl sc__law_steps.nd (kPi (K := K) (wi := fun K => iList K _) rfl (pi_list (pe_slice (kSl (K := K) (r := rSlL) rfl sl_list) (pv 7) po_none (po_some (pe_op op_add (pv 15) pe_int))))) (blkOk_by (own := [("_law_one_here", 16)]) (N := ["_law_rows_here", "_law_state", "_law_instruction", "_law_word", "_law_cell", "_law_facing", "_law_found", "_law_ahead_cells", "_law_free", "_law_line_here", "_law_side", "_law_seen_here", "_law_down", "_law_right", "_law_paces", "_law_k", "_law_one_here", "_law_turn"]) (sc := { kind := .function, names := [(".0", .local), ("_law_k", .local), ("_law_ahead_cells", .cell), ("_law_rows_here", .cell)], isGenerator := false, isCoroutine := false }) (by decide +kernel)) (fun _ _ _ _ _ => pg_name (i := 16) sc__law_steps.nd rfl (Or.inl rfl)) (fun _ _ _ _ _ => pts_nil) (fun _ _ _ _ _ => (pe_call (ok__law_sign T) (hr.mono (by decide)) (by rfl) T.g__law_sign T.f__law_sign.kp T.p__law_sign .nil pass0 (pa_cons (pv 0) (pa_cons (pv 16) pa_nil))))) (by rfl))) (fun _ _ _ _ _ => (pv 15)))
      (Evl.pss_cut (ps_set (i := 7) sc__law_steps.nd rfl (Or.inr rfl) (pe_ifExp (pt_cmpR (op_neD hr.units) (pv 8) (pe_lst pa_nil) (nomark _)) (pe_slice sl_list (pv 7) po_none (po_some (pe_ix ix_list (pv 8) pe_int (fun _ _ => rfl)))) (pv 7)))
      (Evl.pss_cut (ps_if (pt_cmpR op_eq (pv 3) pe_str (nomark _)) (pss_one (ps_setLc (i := 6) (own := [("_law_turn", 17)]) (g := gName 17) rfl sc__law_steps.nd rfl rfl (sw_true rfl rfl rfl (by decide +kernel)) (pi_tup (pe_ix ix_tup (pv 2) pe_int (fun _ _ => rfl))) (blkOk_by (own := [("_law_turn", 17)]) (N := ["_law_rows_here", "_law_state", "_law_instruction", "_law_word", "_law_cell", "_law_facing", "_law_found", "_law_ahead_cells", "_law_free", "_law_line_here", "_law_side", "_law_seen_here", "_law_down", "_law_right", "_law_paces", "_law_k", "_law_one_here", "_law_turn"]) (sc := defScope s__law_steps) (by decide +kernel)) (fun _ _ _ _ _ => pg_name (i := 17) sc__law_steps.nd rfl (Or.inl rfl)) (fun _ _ _ _ _ => pts_nil) (fun _ _ _ _ _ => (pe_op (kOp (K := K) (r := rCatA) rfl op_catA) (pv 4) (pe_tup (pa_cons (pe_op op_mod (pe_callTy call_int1 (by rfl) T.b_int boot_int (pa_cons (pe_op op_add (pv 5) (pv 17)) pa_nil)) pe_int) pa_nil)))))) (pss_one (ps_if (pt_cmpR op_eq (pv 3) pe_str (nomark _)) (pss_cons (ps_set (i := 9) sc__law_steps.nd rfl (Or.inl rfl) (pe_op op_cat (pe_lst (pa_cons (pv 4) pa_nil)) (pv 7)))
      (pss_one (ps_setLc (i := 6) (own := [("_law_one_here", 16)]) (g := gName 16) rfl sc__law_steps.nd rfl rfl (sw_true rfl rfl rfl (by decide +kernel)) (pi_list (pe_slice sl_list (pv 9) (po_some (pe_ix ix_tup (pv 2) pe_int (fun _ _ => rfl))) (po_some (pe_op op_add (pe_ix ix_tup (pv 2) pe_int (fun _ _ => rfl)) pe_int)))) (blkOk_by (own := [("_law_one_here", 16)]) (N := ["_law_rows_here", "_law_state", "_law_instruction", "_law_word", "_law_cell", "_law_facing", "_law_found", "_law_ahead_cells", "_law_free", "_law_line_here", "_law_side", "_law_seen_here", "_law_down", "_law_right", "_law_paces", "_law_k", "_law_one_here", "_law_turn"]) (sc := defScope s__law_steps) (by decide +kernel)) (fun _ _ _ _ _ => pg_name (i := 16) sc__law_steps.nd rfl (Or.inl rfl)) (fun _ _ _ _ _ => pts_nil) (fun _ _ _ _ _ => (pe_op (kOp (K := K) (r := rCatA) rfl op_catA) (pv 16) (pe_tup (pa_cons (pv 5) pa_nil))))))) (pss_one (ps_if (pt_cmpR op_eq (pv 3) pe_str (nomark _)) (pss_one (ps_set (i := 6) sc__law_steps.nd rfl (Or.inl rfl) (pe_slice sl_list (pe_lc (own := [("_law_one_here", 16)]) (g := gName 16) rfl sc__law_steps.nd (pi_list (pv 7)) (blkOk_by (own := [("_law_one_here", 16)]) (N := ["_law_rows_here", "_law_state", "_law_instruction", "_law_word", "_law_cell", "_law_facing", "_law_found", "_law_ahead_cells", "_law_free", "_law_line_here", "_law_side", "_law_seen_here", "_law_down", "_law_right", "_law_paces", "_law_k", "_law_one_here", "_law_turn"]) (sc := defScope s__law_steps) (by decide +kernel)) (fun _ _ _ _ _ => pg_name (i := 16) sc__law_steps.nd rfl (Or.inl rfl)) (fun _ _ _ _ _ => pts_one (pt_cmpR op_in_str (pe_call (ok__law_sign T) (hr.mono (by decide)) (by rfl) T.g__law_sign T.f__law_sign.kp T.p__law_sign .nil pass0 (pa_cons (pv 0) (pa_cons (pv 16) pa_nil))) (pe_ix (kIx (K := K) (r := rIxT) rfl ix_tup) (pv 2) pe_int (fun _ _ => rfl)) (by rfl))) (fun _ _ _ _ _ => (pe_op (kOp (K := K) (r := rCatA) rfl op_catA) (pv 16) (pe_tup (pa_cons (pv 5) pa_nil))))) po_none (po_some pe_int)))) (pss_one (ps_if (pt_cmpR op_eq (pv 3) pe_str (nomark _)) (pss_one (ps_for PassesOwn.never rfl (pi_range1 (by rfl) T.b_range (pa_cons pe_int pa_nil)) (pg_name (i := 10) sc__law_steps.nd rfl (Or.inl rfl)) (pss_cons (ps_setLc (i := 11) (own := [("_law_one_here", 16)]) (g := gName 16) rfl sc__law_steps.nd rfl rfl (sw_true rfl rfl rfl (by decide +kernel)) (pi_list (pe_call (ok__law_line T) (hr.mono (by decide)) (by rfl) T.g__law_line T.f__law_line.kp T.p__law_line .nil pass0 (pa_cons (pv 0) (pa_cons (pv 4) (pa_cons (pv 10) pa_nil))))) (blkOk_by (own := [("_law_one_here", 16)]) (N := ["_law_rows_here", "_law_state", "_law_instruction", "_law_word", "_law_cell", "_law_facing", "_law_found", "_law_ahead_cells", "_law_free", "_law_line_here", "_law_side", "_law_seen_here", "_law_down", "_law_right", "_law_paces", "_law_k", "_law_one_here", "_law_turn"]) (sc := defScope s__law_steps) (by decide +kernel)) (fun _ _ _ _ _ => pg_name (i := 16) sc__law_steps.nd rfl (Or.inl rfl)) (fun _ _ _ _ _ => pts_one (pt_cmpR op_in_str (pe_call (ok__law_sign T) (hr.mono (by decide)) (by rfl) T.g__law_sign T.f__law_sign.kp T.p__law_sign .nil pass0 (pa_cons (pv 0) (pa_cons (pv 16) pa_nil))) (pe_ix (kIx (K := K) (r := rIxT) rfl ix_tup) (pv 2) pe_int (fun _ _ => rfl)) (by rfl))) (fun _ _ _ _ _ => (pv 16)))
      (pss_one (ps_set (i := 6) sc__law_steps.nd rfl (Or.inl rfl) (pe_op op_cat (pv 6) (pe_op op_rep (pe_lst (pa_cons (pe_op op_catA (pv 4) (pe_tup (pa_cons (pv 10) pa_nil))) pa_nil)) (pe_callTy call_int1 (by rfl) T.b_int boot_int (pa_cons (pe_cmpR (op_neD hr.units) (pv 11) (pe_lst pa_nil) (nomark _)) pa_nil))))))))) (pss_one (ps_if (pt_cmpR op_eq (pv 3) pe_str (nomark _)) (pss_one (ps_set (i := 6) sc__law_steps.nd rfl (Or.inl rfl) (pe_op op_rep (pe_lst (pa_cons (pv 1) pa_nil)) (pe_callTy call_int1 (by rfl) T.b_int boot_int (pa_cons (pe_cmpR op_in_str (pe_call (ok__law_sign T) (hr.mono (by decide)) (by rfl) T.g__law_sign T.f__law_sign.kp T.p__law_sign .nil pass0 (pa_cons (pv 0) (pa_cons (pe_call (ok__law_on T) (hr.mono (by decide)) (by rfl) T.g__law_on T.f__law_on.kp T.p__law_on .nil pass0 (pa_cons (pv 4) (pa_cons (pe_op op_add (pv 5) (pe_ix ix_tup (pv 2) pe_int (fun _ _ => rfl))) pa_nil))) pa_nil))) (pe_ix ix_tup (pv 2) pe_int (fun _ _ => rfl)) (by rfl)) pa_nil))))) (pss_one (ps_if (pt_cmpR op_eq (pv 3) pe_str (nomark _)) (pss_one (ps_for PassesOwn.never rfl (pi_range2 (by rfl) T.b_range (pa_cons (pe_op op_sub pe_int (pe_ix ix_tup (pv 2) pe_int (fun _ _ => rfl))) (pa_cons (pe_op op_add (pe_ix ix_tup (pv 2) pe_int (fun _ _ => rfl)) pe_int) pa_nil))) (pg_name (i := 12) sc__law_steps.nd rfl (Or.inl rfl)) (pss_one (ps_for PassesOwn.never rfl (pi_range2 (by rfl) T.b_range (pa_cons (pe_op op_sub (pe_callB call_abs (by rfl) T.b_abs (by decide +kernel) (pa_cons (pv 12) pa_nil)) (pe_ix ix_tup (pv 2) pe_int (fun _ _ => rfl))) (pa_cons (pe_op op_add (pe_op op_sub (pe_ix ix_tup (pv 2) pe_int (fun _ _ => rfl)) (pe_callB call_abs (by rfl) T.b_abs (by decide +kernel) (pa_cons (pv 12) pa_nil))) pe_int) pa_nil))) (pg_name (i := 13) sc__law_steps.nd rfl (Or.inl rfl)) (pss_one (ps_if (pt_cmpR op_in_str (pe_call (ok__law_sign T) (hr.mono (by decide)) (by rfl) T.g__law_sign T.f__law_sign.kp T.p__law_sign .nil pass0 (pa_cons (pv 0) (pa_cons (pe_tup (pa_cons (pe_op op_add (pe_ix ix_tup (pv 4) pe_int (fun _ _ => rfl)) (pv 12)) (pa_cons (pe_op op_add (pe_ix ix_tup (pv 4) pe_int (fun _ _ => rfl)) (pv 13)) pa_nil))) pa_nil))) (pe_ix ix_tup (pv 2) pe_int (fun _ _ => rfl)) (by rfl)) (pss_one (ps_set (i := 6) sc__law_steps.nd rfl (Or.inl rfl) (pe_lst (pa_cons (pv 1) pa_nil)))) pss_nil)))))) (pss_one (ps_for PassesOwn.never rfl (pi_range1 (by rfl) T.b_range (pa_cons (pe_op op_add (pe_ix ix_tup (pv 2) pe_int (fun _ _ => rfl)) pe_int) pa_nil)) (pg_name (i := 14) sc__law_steps.nd rfl (Or.inl rfl)) (Evl.pss_cut (ps_set (i := 6) sc__law_steps.nd rfl (Or.inl rfl) (pe_op op_cat (pv 6) (pe_op op_rep (pe_lst (pa_cons (pv 1) pa_nil)) (pe_callTy call_int1 (by rfl) T.b_int boot_int (pa_cons (pe_and (pe_cmpR op_ge (pv 14) (pe_ix ix_tup (pv 2) pe_int (fun _ _ => rfl)) (nomark _)) (pe_one (pe_cmpR op_notN (pv 1) pe_non (nomark _)))) pa_nil)))))
      (pss_one (ps_set (i := 1) sc__law_steps.nd rfl (Or.inl rfl) (pe_ifExp (pt_cmpR op_notN (pv 1) pe_non (nomark _)) (pe_call (ok__law_shore T) (hr.mono (by decide)) (by rfl) T.g__law_shore T.f__law_shore.kp T.p__law_shore .nil pass0 (pa_cons (pv 0) (pa_cons (pv 1) (pa_cons (pe_ix ix_tup (pv 2) pe_int (fun _ _ => rfl)) pa_nil)))) pe_non)))))))))))))))))
      (pss_one (ps_ret (pe_callB (cr_tusSorted rfl hr.units) (by rfl) T.b_sorted boot_sorted (pa_cons (pe_callTy (cr_tus rfl hr.units) (by rfl) T.b_set boot_set (pa_cons (pv 6) pa_nil)) pa_nil))))))))), ?_⟩
    obtain ⟨i, j, f, rfl, b1, b2, b3, b4, b5, b6⟩ := st
    obtain ⟨hd, rs, rfl⟩ : ∃ hd rs, ds = .str hd :: rs := by cases ig <;> exact ⟨_, _, rfl⟩
    cases hi with
    | tup hsI haI =>
      cases haI with
      | cons hh haI =>
        cases hh
        rename_i ys
        have ohi := ok.hi
        have owi := ok.wi
        have hs : SqT K H sa [V.int i, V.int j, V.int f] := hs
        refine ⟨_, rfl, ia, _, 0, .str hd, rfl, rfl, hsI, atI_nat (j := 0) rfl, _, rfl, _, rfl, ?_⟩
        refine slA (K := K) hs (fun b H1 x1 hb => ?_)
        have ec : cutV [V.int i, V.int j, V.int f] none (some 2) = [V.int i, V.int j] := rfl
        rw [ec] at hb
        refine ⟨_, rfl, sa, _, 2, .int f, rfl, rfl, Evl.ex_t x1 hs, atI_nat (j := 2) rfl, Evl.sz_of (by simp), fun pf hpf => ⟨Evl.sz_of (by simp), fun pt hpt => ?_⟩⟩
        have xf := ex_new (o := .lst []) hpf
        have nf : NewL K (upd H1 pf (.lst [])) pf (([] : List (List Int)).map tupI) := ⟨[], upd_same, .nil, rfl⟩
        generalize upd H1 pf (.lst []) = H2 at xf nf hpt ⊢
        refine ⟨pt, _, rfl, .of upd_same, rfl, _, _, rfl, _, _, rfl, _, _, rfl, _, _, rfl, rfl, ?_⟩
        have x2 := (x1.trans xf).trans (ex_new (o := .tup [V.str hd, V.ref b, V.int f, V.ref pf]) hpt)
        have hb2 := Evl.ex_t (xf.trans (ex_new (o := .tup [V.str hd, V.ref b, V.int f, V.ref pf]) hpt)) hb
        have nf2 := nf.ex (ex_new (o := .tup [V.str hd, V.ref b, V.int f, V.ref pf]) hpt)
        generalize upd H2 pt (.tup [V.str hd, V.ref b, V.int f, V.ref pf]) = H3 at x2 hb2 nf2 ⊢
        refine ⟨_, rfl, _, rfl, _, rfl, ra, b, rows, wd, i, j, f, [], rfl, Evl.ex_t x2 hr0, ok, hb2, fun pa H4 la x4 na ha1 ha2 => ?_⟩
        have x24 := x2.trans x4
        obtain ⟨xa, na1, na2⟩ := na.sq
        rw [List.length_map] at na2
        refine ⟨_, rfl, pa, _, rfl, .inl (.of na1), ?_⟩
        refine ⟨_, rfl, by omega, by omega, fun D hD => lcD (K := K) (S := []) (g := gName 15) (walk_range (lo := 0) (n := (xa.length : Int).toNat)) hD (fun _ => True) (fun n ds => ∃ ns : List Int, ds = ns.map PyData.int) (by simp) (by omega) (fun _ _ _ => trivial) (fun _ _ _ => trivial) trivial ⟨[], rfl⟩ ?_ ?_⟩
        · rintro n x Ha Hb ds P1 P2 hn ⟨ns, rfl⟩ k1 _ ⟨rfl, rfl⟩ c1 c2
          refine ⟨rfl, _, rfl, _, rfl, _, _, rfl, rfl, _, rfl, ?_⟩
          refine cutL (K := K) (na.ex k1.ex) (fun ps G1 lp y1 np np1 np2 => ?_)
          obtain ⟨xp, np3, np4⟩ := np.sq
          rw [List.length_map] at np4
          refine ⟨ps, rfl, ⟨xp, .of np3⟩, fun D2 hD2 => ?_⟩
          refine lcD (K := K) (S := []) (g := gName 16) (walk_list (K := K) (a := ps) (xs := xp)) hD2 (fun _ => True) (fun m ds => ∃ ss : List Str, ds = ss.map PyData.str) (by simp) (by omega) (fun _ _ _ => trivial) (fun H' k _ => .of (k.ex _ _ np3)) trivial ⟨[], rfl⟩ ?_ ?_
          · rintro m x Hc Hd ds P3 P4 hm ⟨ss, rfl⟩ k2 _ ⟨rfl, hx⟩ d1 d2
            obtain ⟨a, l, rfl, hl, sl⟩ := np.at np3 hx
            obtain ⟨i', j', rfl, _⟩ := ha1 l (np1 l hl)
            refine ⟨rfl, tY ⟨_, rfl, _, rfl, ra, a, rows, wd, i', j', [], rfl, Evl.ex_t (((x24.trans k1.ex).trans y1).trans k2.ex) hr0, ok, Evl.ex_t k2.ex sl, d1 _ (.str (oneS (signAt rows i' j'))) _ (.refl _ _) trivial (.str _) (by unfold tupOnly tupD; exact one_ok (sign_gsn ok i' j')) ⟨ss ++ [oneS (signAt rows i' j')], by rw [List.map_append]; rfl⟩⟩⟩
          · rintro H6 ds k2 _ nd2 ⟨ss, rfl⟩ _
            obtain ⟨xs2, e1, e2, _⟩ := nd2
            obtain rfl := dps_str_eq e2
            refine ⟨D2, _, rfl, .inl (.of e1), rfl, by simp [flatV], _, rfl, ?_⟩
            have y2 := y1.trans k2.ex
            refine ifB (fun _ => ⟨_, rfl, c1 _ (.int _) _ (.of y2) trivial (.int _) (by unfold tupOnly tupD; rfl) ⟨ns ++ [_], by rw [List.map_append]; rfl⟩⟩) (fun _ => c2 _ (.of y2) trivial ⟨ns, rfl⟩)
        · rintro H5 ds k1 _ nd ⟨ns, rfl⟩ _
          have x5 := k1.ex
          have x25 := x24.trans x5
          refine ⟨fun σ' H' => ∃ (pa' : Addr) (la' : List (List Int)) (o8 : Option V), σ' = [some (.ref ra), some (.ref sa), some (.ref ia), some (.str hd), some (.ref b), some (.int f), some (.ref pf), some (.ref pa'), o8, none, none, none, none, none, none, none, none, none] ∧ NewL K H' pa' (la'.map tupI) ∧ (∀ l ∈ la', inB rows.length wd l) ∧ la'.length ≤ 4 ∧ Ex H4 H', ?_, ?_⟩
          · refine ⟨_, rfl, Evl.sz_of (by simp), fun p hp => nil_ne (nd.ex (ex_new hp)) upd_same ⟨_, rfl, ?_⟩⟩
            have xp := ex_new (o := .lst []) hp
            refine ifB (fun e => ?_) (fun e => ?_)
            · obtain ⟨xs, nd1, nd2, _⟩ := nd
              obtain rfl := dps_int_eq nd2
              obtain ⟨n0, nr, hns⟩ : ∃ n0 nr, ns = n0 :: nr := by
                cases ns with
                | nil => cases e
                | cons a r => exact ⟨a, r, rfl⟩
              refine ⟨_, rfl, _, rfl, D, _, 0, .int n0, rfl, rfl, .of (xp _ _ nd1), atI_nat (j := 0) (by rw [hns]; rfl), _, rfl, ?_⟩
              refine cutL (K := K) (na.ex (x5.trans xp)) (fun ps G1 lp y1 np np1 np2 => ?_)
              exact ⟨ps, lp, _, rfl, np, fun l hl => ha1 l (np1 l hl), by omega, (x5.trans xp).trans y1⟩
            · exact ⟨_, rfl, pa, la, _, rfl, na.ex (x5.trans xp), ha1, ha2, x5.trans xp⟩
          · rintro σ' H6 ⟨pa', la', o8, rfl, na', ha1', ha2', x6⟩
            clear na ha1 ha2 na1 na2
            have x26 := x24.trans x6
            have x46 := x4.trans x6
            have hs6 := Evl.ex_t x26 hs
            have hb6 := Evl.ex_t x46 hb2
            have nf6 := nf2.ex x46
            have hr6 := Evl.ex_t x26 hr0
            have hsI6 := Evl.ex_t x26 hsI
            have haI6 := dps_ex x26 haI
            clear haI
            refine ⟨fun σ' H' => ∃ (p : Addr) (ls : List (List Int)), σ'[6]? = some (some (.ref p)) ∧ NewL K H' p (ls.map tupI) ∧ (∀ l ∈ ls, stB rows.length wd l) ∧ Ex H6 H', ?_, ?_⟩
            · cases ig with
              | turn ts t1 t2 =>
                refine ⟨_, rfl, rfl, _, rfl, ifB (fun _ => ?_) (fun e => absurd e (by decide +kernel))⟩
                cases haI6 with
                | cons h1 h2 =>
                  cases h2
                  cases h1 with
                  | tup hsT haT =>
                    obtain rfl := dps_int_eq haT
                    rename_i tt
                    refine ⟨_, rfl, ia, _, 1, .ref tt, rfl, rfl, hsI6, atI_nat (j := 1) rfl, tt, rfl, ⟨_, hsT⟩, fun D hD => ?_⟩
                    refine lcD (K := K) (S := []) (g := gName 17) (walk_tup (K := K) (a := tt) (xs := ts.map V.int)) hD (fun _ => True) (fun m ds => ∃ ls : List (List Int), ds = ls.map tupI ∧ ∀ l ∈ ls, stB rows.length wd l) (by simp) (by rw [List.length_map]; omega) (fun _ _ _ => trivial) (fun H' k _ => Evl.ex_t k.ex hsT) trivial ⟨[], rfl, fun l hl => by cases hl⟩ ?_ ?_
                    · rintro m x Ha Hb ds P1 P2 hm ⟨ls, rfl, hls⟩ k1 _ ⟨rfl, hx⟩ c1 c2
                      rw [List.getElem?_map, Option.map_eq_some_iff] at hx
                      obtain ⟨t, _, rfl⟩ := hx
                      refine ⟨rfl, tY ⟨_, rfl, _, rfl, _, rfl, _, _, rfl, rfl, .inl ⟨_, rfl, _, _, rfl, rfl, by show (0 : Int) < 4; decide, Evl.sz_of (by simp), fun p hp => ?_⟩⟩⟩
                      refine catA (K := K) (Evl.ex_t (k1.ex.trans (ex_new hp)) hb6) (.of upd_same) (by simp) fun p2 G2 y2 s2 => ?_
                      refine c1 _ (tupI [i, j, (f + t) % 4]) _ (.of ((ex_new hp).trans y2)) trivial (dp_tupI (l := [i, j, (f + t) % 4]) s2) (tupI_ok _) ⟨ls ++ [[i, j, (f + t) % 4]], by rw [List.map_append]; rfl, fun l hl => ?_⟩
                      rcases List.mem_append.mp hl with h | h
                      · exact hls l h
                      · rw [List.mem_singleton.mp h]
                        exact ⟨_, _, _, rfl, b1, b2, b3, b4, Int.emod_nonneg _ (by decide), Int.emod_lt_of_pos _ (by decide)⟩
                    · rintro G1 ds k1 _ nd ⟨ls, rfl, hls⟩ _
                      exact ⟨D, ls, rfl, nd, hls, k1.ex⟩
              | walk wa wb w1 w2 w3 w4 =>
                refine ⟨_, rfl, rfl, _, rfl, ifB (fun e => absurd e (by decide +kernel)) (fun _ => ?_)⟩
                refine ⟨_, rfl, rfl, _, rfl, ifB (fun _ => ?_) (fun e => absurd e (by decide +kernel))⟩
                cases haI6 with
                | cons h1 h2 =>
                  cases h1
                  cases h2 with
                  | cons h1 h2 =>
                    cases h1
                    cases h2
                    refine ⟨_, rfl, Evl.sz_of (by simp), fun p hp => ⟨_, rfl, ?_⟩⟩
                    have n1 : NewL K (upd H6 p (.lst [V.ref b])) p ([[i, j]].map tupI) := ⟨[V.ref b], upd_same, .cons (dp_tupI (l := [i, j]) (Evl.ex_t (ex_new hp) hb6)) .nil, tupIs_ok _⟩
                    have y1 := ex_new (o := .lst [V.ref b]) hp
                    refine catL (K := K) n1 (na'.ex y1) (by simp; omega) fun p2 G2 y2 n2 => ?_
                    have n2 : NewL K G2 p2 (([i, j] :: la').map tupI) := n2
                    have hl2 : ∀ l ∈ [i, j] :: la', inB rows.length wd l := fun l hl => by
                      rcases List.mem_cons.mp hl with h | h
                      · rw [h]
                        exact ⟨i, j, rfl, b1, b2, b3, b4⟩
                      · exact ha1' l h
                    have y12 := y1.trans y2
                    refine ⟨_, rfl, _, rfl, ia, _, 1, .int wa, rfl, rfl, Evl.ex_t y12 hsI6, atI_nat (j := 1) rfl, _, rfl, _, rfl, ia, _, 2, .int wb, rfl, rfl, Evl.ex_t y12 hsI6, atI_nat (j := 2) rfl, _, _, rfl, rfl, _, rfl, ?_⟩
                    refine cutL (K := K) n2 (fun ps G3 lp y3 np np1 np2 => ?_)
                    obtain ⟨xp, np3, np4⟩ := np.sq
                    rw [List.length_map] at np4
                    have lp4 : lp.length ≤ 5 := Nat.le_trans np2 (by simp; omega)
                    refine ⟨ps, rfl, ⟨xp, .of np3⟩, fun D hD => ?_⟩
                    refine lcD (K := K) (S := []) (g := gName 16) (walk_list (K := K) (a := ps) (xs := xp)) hD (fun _ => True) (fun m ds => ∃ ls : List (List Int), ds = ls.map tupI ∧ ∀ l ∈ ls, stB rows.length wd l) (by simp) (by omega) (fun _ _ _ => trivial) (fun H' k _ => .of (k.ex _ _ np3)) trivial ⟨[], rfl, fun l hl => by cases hl⟩ ?_ ?_
                    · rintro m x Ha Hb ds P1 P2 hm ⟨ls, rfl, hls⟩ k1 _ ⟨rfl, hx⟩ c1 c2
                      obtain ⟨a, l, rfl, hl, sl⟩ := np.at np3 hx
                      obtain ⟨i', j', rfl, g1, g2, g3, g4⟩ := hl2 l (np1 l hl)
                      refine ⟨rfl, tY ⟨_, rfl, _, rfl, Evl.sz_of (by simp), fun p hp => ?_⟩⟩
                      refine catA (K := K) (Evl.ex_t (k1.ex.trans (ex_new hp)) sl) (.of upd_same) (by simp) fun p2 G4 y4 s4 => ?_
                      refine c1 _ (tupI [i', j', f]) _ (.of ((ex_new hp).trans y4)) trivial (dp_tupI (l := [i', j', f]) s4) (tupI_ok _) ⟨ls ++ [[i', j', f]], by rw [List.map_append]; rfl, fun l hl => ?_⟩
                      rcases List.mem_append.mp hl with h | h
                      · exact hls l h
                      · rw [List.mem_singleton.mp h]
                        exact ⟨_, _, _, rfl, g1, g2, g3, g4, b5, b6⟩
                    · rintro G4 ds k1 _ nd ⟨ls, rfl, hls⟩ _
                      exact ⟨D, ls, rfl, nd, hls, (y12.trans y3).trans k1.ex⟩
              | untl s sg =>
                refine ⟨_, rfl, rfl, _, rfl, ifB (fun e => absurd e (by decide +kernel)) (fun _ => ?_)⟩
                refine ⟨_, rfl, rfl, _, rfl, ifB (fun e => absurd e (by decide +kernel)) (fun _ => ?_)⟩
                refine ⟨_, rfl, rfl, _, rfl, ifB (fun _ => ?_) (fun e => absurd e (by decide +kernel))⟩
                cases haI6 with
                | cons h1 h2 =>
                  cases h1
                  cases h2
                  obtain ⟨xp, np3, np4⟩ := na'.sq
                  rw [List.length_map] at np4
                  refine ⟨_, rfl, pa', rfl, ⟨xp, .of np3⟩, fun D hD => ?_⟩
                  refine lcD (K := K) (S := []) (g := gName 16) (walk_list (K := K) (a := pa') (xs := xp)) hD (fun _ => True) (fun m ds => ∃ ls : List (List Int), ds = ls.map tupI ∧ ∀ l ∈ ls, stB rows.length wd l) (by simp) (by omega) (fun _ _ _ => trivial) (fun H' k _ => .of (k.ex _ _ np3)) trivial ⟨[], rfl, fun l hl => by cases hl⟩ ?_ ?_
                  · rintro m x Ha Hb ds P1 P2 hm ⟨ls, rfl, hls⟩ k1 _ ⟨rfl, hx⟩ c1 c2
                    obtain ⟨a, l, rfl, hl, sl⟩ := na'.at np3 hx
                    obtain ⟨i', j', rfl, g1, g2, g3, g4⟩ := ha1' l hl
                    refine ⟨rfl, _, rfl, _, rfl, ra, a, rows, wd, i', j', [], rfl, Evl.ex_t k1.ex hr6, ok, Evl.ex_t k1.ex sl, _, rfl, ia, _, 1, .str s, rfl, rfl, Evl.ex_t k1.ex hsI6, atI_nat (j := 1) rfl, _, _, rfl, rfl, _, rfl, ?_⟩
                    refine ifB (fun _ => ?_) (fun _ => c2 _ (.refl _ _) trivial ⟨ls, rfl, hls⟩)
                    refine ⟨_, rfl, _, rfl, Evl.sz_of (by simp), fun p hp => ?_⟩
                    refine catA (K := K) (Evl.ex_t (k1.ex.trans (ex_new hp)) sl) (.of upd_same) (by simp) fun p2 G4 y4 s4 => ?_
                    refine c1 _ (tupI [i', j', f]) _ (.of ((ex_new hp).trans y4)) trivial (dp_tupI (l := [i', j', f]) s4) (tupI_ok _) ⟨ls ++ [[i', j', f]], by rw [List.map_append]; rfl, fun l hl => ?_⟩
                    rcases List.mem_append.mp hl with h | h
                    · exact hls l h
                    · rw [List.mem_singleton.mp h]
                      exact ⟨_, _, _, rfl, g1, g2, g3, g4, b5, b6⟩
                  · rintro G4 ds k1 _ nd ⟨ls, rfl, hls⟩ _
                    refine ⟨_, rfl, ?_⟩
                    refine cutL (K := K) nd (fun ps G5 lp y5 np np1 np2 => ?_)
                    exact ⟨ps, lp, rfl, np, fun l hl => hls l (np1 l hl), k1.ex.trans y5⟩
              | towd s sg =>
                refine ⟨_, rfl, rfl, _, rfl, ifB (fun e => absurd e (by decide +kernel)) (fun _ => ?_)⟩
                refine ⟨_, rfl, rfl, _, rfl, ifB (fun e => absurd e (by decide +kernel)) (fun _ => ?_)⟩
                refine ⟨_, rfl, rfl, _, rfl, ifB (fun e => absurd e (by decide +kernel)) (fun _ => ?_)⟩
                refine ⟨_, rfl, rfl, _, rfl, ifB (fun _ => ?_) (fun e => absurd e (by decide +kernel))⟩
                cases haI6 with
                | cons h1 h2 =>
                  cases h1
                  cases h2
                  refine ⟨_, rfl, by decide, by decide, ?_⟩
                  refine for_range (fun n σ H' => ∃ (p : Addr) (ls : List (List Int)) (o10 o11 : Option V), σ = [some (.ref ra), some (.ref sa), some (.ref ia), some (.str "toward"), some (.ref b), some (.int f), some (.ref p), some (.ref pa'), o8, none, o10, o11, none, none, none, none, none, none] ∧ NewL K H' p (ls.map tupI) ∧ (∀ l ∈ ls, stB rows.length wd l) ∧ ls.length ≤ n ∧ Ex H6 H')
                    ⟨pf, [], none, none, rfl, nf6, (fun l hl => by cases hl), Nat.le_refl _, .refl _⟩ ?_ ?_
                  · rintro n σ G1 hn ⟨p, ls, o10, o11, rfl, nl, hls, hle, y1⟩
                    have hn4 : n < 4 := hn
                    refine ⟨_, rfl, _, rfl, _, rfl, ra, b, rows, wd, i, j, 0 + (n : Int), [], rfl, Evl.ex_t y1 hr6, ok, Evl.ex_t y1 hb6, fun pl G2 ll y2 nl2 hl2 hz2 => ?_⟩
                    obtain ⟨xp, np3, np4⟩ := nl2.sq
                    rw [List.length_map] at np4
                    have y12 := y1.trans y2
                    refine ⟨pl, rfl, ⟨xp, .of np3⟩, fun D hD => ?_⟩
                    refine lcD (K := K) (S := []) (g := gName 16) (walk_list (K := K) (a := pl) (xs := xp)) hD (fun _ => True) (fun m ds => ∃ ls : List (List Int), ds = ls.map tupI) (by simp) (by omega) (fun _ _ _ => trivial) (fun H' k _ => .of (k.ex _ _ np3)) trivial ⟨[], rfl⟩ ?_ ?_
                    · rintro m x Ha Hb ds P1 P2 hm ⟨ls', rfl⟩ k1 _ ⟨rfl, hx⟩ c1 c2
                      obtain ⟨a, l, rfl, hl, sl⟩ := nl2.at np3 hx
                      obtain ⟨i', j', rfl, g1, g2, g3, g4⟩ := hl2 l hl
                      refine ⟨rfl, _, rfl, _, rfl, ra, a, rows, wd, i', j', [], rfl, Evl.ex_t (y12.trans k1.ex) hr6, ok, Evl.ex_t k1.ex sl, _, rfl, ia, _, 1, .str s, rfl, rfl, Evl.ex_t (y12.trans k1.ex) hsI6, atI_nat (j := 1) rfl, _, _, rfl, rfl, _, rfl, ?_⟩
                      refine ifB (fun _ => ?_) (fun _ => c2 _ (.refl _ _) trivial ⟨ls', rfl⟩)
                      exact ⟨_, rfl, c1 _ (tupI [i', j']) _ (.refl _ _) trivial (dp_tupI (l := [i', j']) (Evl.ex_t k1.ex sl)) (tupI_ok _) ⟨ls' ++ [[i', j']], by rw [List.map_append]; rfl⟩⟩
                    · rintro G4 ds k1 _ nd ⟨ls', rfl⟩ _
                      have y14 := y12.trans k1.ex
                      refine ⟨_, rfl, _, rfl, _, rfl, Evl.sz_of (by simp), fun p5 hp5 => ?_⟩
                      refine catA (K := K) (Evl.ex_t (y14.trans (ex_new hp5)) hb6) (.of upd_same) (by simp) fun p6 G6 y6 s6 => ?_
                      refine ⟨Evl.sz_of (by simp), fun p7 hp7 => ⟨_, rfl, Evl.sz_of (by simp), fun p8 hp8 => ?_⟩⟩
                      have y48 := (((ex_new (o := .tup [V.int (0 + (n : Int))]) hp5).trans y6).trans (ex_new (o := .lst [V.ref p6]) hp7)).trans (ex_new (o := .lst []) hp8)
                      refine nil_ne (nd.ex y48) upd_same (.inr ⟨_, rfl, ?_⟩)
                      refine repL (K := K) (P := fun l => l = [i, j, 0 + (n : Int)]) (ex_new hp8 _ _ upd_same) (fun _ => ⟨p6, [i, j, 0 + (n : Int)], rfl, Evl.ex_t ((ex_new hp7).trans (ex_new hp8)) s6, rfl⟩) fun p9 G9 l9 y9 n9 h9 z9 => ?_
                      have y19 := (y2.trans k1.ex).trans (y48.trans y9)
                      refine catL (K := K) (nl.ex y19) n9 (by simp; omega) fun p10 G10 y10 n10 => ?_
                      rw [← List.map_append] at n10
                      refine ⟨p10, ls ++ l9, _, _, rfl, n10, fun l hl => ?_, by rw [List.length_append]; omega, (y1.trans y19).trans y10⟩
                      rcases List.mem_append.mp hl with h | h
                      · exact hls l h
                      · rw [h9 l h]
                        exact ⟨_, _, _, rfl, b1, b2, b3, b4, by omega, by omega⟩
                  · rintro σ G1 ⟨p, ls, o10, o11, rfl, nl, hls, hle, y1⟩
                    exact ⟨p, ls, rfl, nl, hls, y1⟩
              | besd d s d1 d2 sg =>
                refine ⟨_, rfl, rfl, _, rfl, ifB (fun e => absurd e (by decide +kernel)) (fun _ => ?_)⟩
                refine ⟨_, rfl, rfl, _, rfl, ifB (fun e => absurd e (by decide +kernel)) (fun _ => ?_)⟩
                refine ⟨_, rfl, rfl, _, rfl, ifB (fun e => absurd e (by decide +kernel)) (fun _ => ?_)⟩
                refine ⟨_, rfl, rfl, _, rfl, ifB (fun e => absurd e (by decide +kernel)) (fun _ => ?_)⟩
                refine ⟨_, rfl, rfl, _, rfl, ifB (fun _ => ?_) (fun e => absurd e (by decide +kernel))⟩
                cases haI6 with
                | cons h1 h2 =>
                  cases h1
                  cases h2 with
                  | cons h1 h2 =>
                    cases h1
                    cases h2
                    refine ⟨_, rfl, Evl.sz_of (by simp), fun p hp => ?_⟩
                    have y1 := ex_new (o := .lst [V.ref sa]) hp
                    refine ⟨_, rfl, _, rfl, _, rfl, _, rfl, ia, _, 1, .int d, rfl, rfl, Evl.ex_t y1 hsI6, atI_nat (j := 1) rfl, _, _, rfl, rfl, b, i, j, f + d, [], rfl, Evl.ex_t y1 hb6, fun p2 G2 y2 s2 => ?_⟩
                    have y12 := y1.trans y2
                    refine ⟨ra, p2, rows, wd, _, _, [], rfl, Evl.ex_t y12 hr6, ok, s2, _, rfl, ia, _, 2, .str s, rfl, rfl, Evl.ex_t y12 hsI6, atI_nat (j := 2) rfl, _, _, rfl, rfl, .inr ⟨_, rfl, ?_⟩⟩
                    refine repL (K := K) (P := fun l => l = [i, j, f]) (y2 _ _ upd_same) (fun _ => ⟨sa, [i, j, f], rfl, Evl.ex_t y12 hs6, rfl⟩) fun p9 G9 l9 y9 n9 h9 z9 => ?_
                    exact ⟨p9, l9, rfl, n9, fun l hl => by rw [h9 l hl]; exact ⟨_, _, _, rfl, b1, b2, b3, b4, b5, b6⟩, y12.trans y9⟩
              | near s m sg m1 m2 =>
                refine ⟨_, rfl, rfl, _, rfl, ifB (fun e => absurd e (by decide +kernel)) (fun _ => ?_)⟩
                refine ⟨_, rfl, rfl, _, rfl, ifB (fun e => absurd e (by decide +kernel)) (fun _ => ?_)⟩
                refine ⟨_, rfl, rfl, _, rfl, ifB (fun e => absurd e (by decide +kernel)) (fun _ => ?_)⟩
                refine ⟨_, rfl, rfl, _, rfl, ifB (fun e => absurd e (by decide +kernel)) (fun _ => ?_)⟩
                refine ⟨_, rfl, rfl, _, rfl, ifB (fun e => absurd e (by decide +kernel)) (fun _ => ?_)⟩
                refine ⟨_, rfl, rfl, _, rfl, ifB (fun _ => ?_) (fun e => absurd e (by decide +kernel))⟩
                cases haI6 with
                | cons h1 h2 =>
                  cases h1
                  cases h2 with
                  | cons h1 h2 =>
                    cases h1
                    cases h2
                    have rdm : ∀ {H'}, Ex H6 H' → SqT K H' ia [V.str "near", V.str s, V.int m] := fun x => Evl.ex_t x hsI6
                    refine ⟨_, rfl, ia, _, 2, .int m, rfl, rfl, rdm (.refl _), atI_nat (j := 2) rfl, _, _, rfl, rfl, _, rfl, ia, _, 2, .int m, rfl, rfl, rdm (.refl _), atI_nat (j := 2) rfl, _, _, rfl, rfl, _, _, rfl, ⟨by omega, by omega, by omega, by omega⟩, ?_⟩
                    refine for_range (fun n σ H' => ∃ (p : Addr) (ls : List (List Int)) (o12 o13 : Option V), σ = [some (.ref ra), some (.ref sa), some (.ref ia), some (.str "near"), some (.ref b), some (.int f), some (.ref p), some (.ref pa'), o8, none, none, none, o12, o13, none, none, none, none] ∧ NewL K H' p (ls.map tupI) ∧ (∀ l ∈ ls, stB rows.length wd l) ∧ Ex H6 H')
                      ⟨pf, [], none, none, rfl, nf6, (fun l hl => by cases hl), .refl _⟩ ?_ ?_
                    · rintro n σ G1 hn ⟨p, ls, o12, o13, rfl, nl, hls, y1⟩
                      have n1 : (0 - m + (n : Int)) ≤ m := by omega
                      obtain ⟨dn, edn⟩ : ∃ dn : Int, dn = 0 - m + (n : Int) := ⟨_, rfl⟩
                      rw [← edn]
                      have ab : 0 ≤ (if dn < 0 then -dn else dn) ∧ (if dn < 0 then -dn else dn) ≤ m := by split <;> omega
                      refine ⟨_, rfl, _, rfl, ?_⟩
                      obtain ⟨da, eda⟩ : ∃ da : Int, da = (if dn < 0 then -dn else dn) := ⟨_, rfl⟩
                      rw [← eda] at ab ⊢
                      refine ⟨_, rfl, ia, _, 2, .int m, rfl, rfl, rdm y1, atI_nat (j := 2) rfl, _, _, rfl, rfl, _, rfl, ia, _, 2, .int m, rfl, rfl, rdm y1, atI_nat (j := 2) rfl, _, rfl, _, rfl, ?_⟩
                      rw [← eda]
                      refine ⟨_, _, rfl, rfl, _, _, rfl, rfl, _, _, rfl, ⟨by omega, by omega, by omega, by omega⟩, ?_⟩
                      refine for_range (fun n σ H' => ∃ (p : Addr) (ls : List (List Int)) (o13 : Option V), σ = [some (.ref ra), some (.ref sa), some (.ref ia), some (.str "near"), some (.ref b), some (.int f), some (.ref p), some (.ref pa'), o8, none, none, none, some (.int dn), o13, none, none, none, none] ∧ NewL K H' p (ls.map tupI) ∧ (∀ l ∈ ls, stB rows.length wd l) ∧ Ex H6 H')
                        ⟨p, ls, o13, rfl, nl, hls, y1⟩ ?_ ?_
                      · rintro n2 σ G2 hn2 ⟨p, ls, o13, rfl, nl, hls, y2⟩
                        refine ⟨_, rfl, _, rfl, b, _, 0, .int i, rfl, rfl, Evl.ex_t y2 hb6, atI_nat (j := 0) rfl, _, rfl, _, _, rfl, rfl, _, rfl, b, _, 1, .int j, rfl, rfl, Evl.ex_t y2 hb6, atI_nat (j := 1) rfl, _, rfl, _, _, rfl, rfl, Evl.sz_of (by simp), fun p3 hp3 => ?_⟩
                        refine ⟨ra, p3, rows, wd, _, _, [], rfl, Evl.ex_t (y2.trans (ex_new hp3)) hr6, ok, .of upd_same, _, rfl, ia, _, 1, .str s, rfl, rfl, rdm (y2.trans (ex_new hp3)), atI_nat (j := 1) rfl, _, _, rfl, rfl, _, rfl, ?_⟩
                        refine ifB (fun _ => ?_) (fun _ => ⟨p, ls, _, rfl, nl.ex (ex_new hp3), hls, y2.trans (ex_new hp3)⟩)
                        refine ⟨_, rfl, Evl.sz_of (by simp), fun p4 hp4 => ?_⟩
                        have y4 := (y2.trans (ex_new hp3)).trans (ex_new (o := .lst [V.ref sa]) hp4)
                        exact ⟨p4, [[i, j, f]], _, rfl, ⟨[V.ref sa], upd_same, .cons (dp_tupI (l := [i, j, f]) (Evl.ex_t y4 hs6)) .nil, tupIs_ok _⟩, fun l hl => by rw [List.mem_singleton.mp hl]; exact ⟨_, _, _, rfl, b1, b2, b3, b4, b5, b6⟩, y4⟩
                      · rintro σ G2 ⟨p, ls, o13, rfl, nl, hls, y2⟩
                        exact ⟨p, ls, _, _, rfl, nl, hls, y2⟩
                    · rintro σ G1 ⟨p, ls, o12, o13, rfl, nl, hls, y1⟩
                      exact ⟨p, ls, rfl, nl, hls, y1⟩
              | shor sd wa wb s1 s2 w1 w2 w3 w4 =>
                refine ⟨_, rfl, rfl, _, rfl, ifB (fun e => absurd e (by decide +kernel)) (fun _ => ?_)⟩
                refine ⟨_, rfl, rfl, _, rfl, ifB (fun e => absurd e (by decide +kernel)) (fun _ => ?_)⟩
                refine ⟨_, rfl, rfl, _, rfl, ifB (fun e => absurd e (by decide +kernel)) (fun _ => ?_)⟩
                refine ⟨_, rfl, rfl, _, rfl, ifB (fun e => absurd e (by decide +kernel)) (fun _ => ?_)⟩
                refine ⟨_, rfl, rfl, _, rfl, ifB (fun e => absurd e (by decide +kernel)) (fun _ => ?_)⟩
                refine ⟨_, rfl, rfl, _, rfl, ifB (fun e => absurd e (by decide +kernel)) (fun _ => ?_)⟩
                cases haI6 with
                | cons h1 h2 =>
                  cases h1
                  cases h2 with
                  | cons h1 h2 =>
                    cases h1
                    cases h2 with
                    | cons h1 h2 =>
                      cases h1
                      cases h2
                      have rdm : ∀ {H'}, Ex H6 H' → SqT K H' ia [V.str "shore", V.int sd, V.int wa, V.int wb] := fun x => Evl.ex_t x hsI6
                      refine ⟨_, rfl, ia, _, 3, .int wb, rfl, rfl, rdm (.refl _), atI_nat (j := 3) rfl, _, _, rfl, rfl, _, rfl, by omega, by omega, ?_⟩
                      refine for_range (fun n σ H' => ∃ (p : Addr) (ls : List (List Int)) (sv : V) (o14 : Option V), σ = [some (.ref ra), some sv, some (.ref ia), some (.str "shore"), some (.ref b), some (.int f), some (.ref p), some (.ref pa'), o8, none, none, none, none, none, o14, none, none, none] ∧ NewL K H' p (ls.map tupI) ∧ (∀ l ∈ ls, stB rows.length wd l) ∧ ls.length ≤ n ∧ Ex H6 H' ∧
                        (sv = .non ∨ ∃ (a : Addr) (l : List Int), sv = .ref a ∧ SqT K H' a (l.map V.int) ∧ stB rows.length wd l))
                        ⟨pf, [], .ref sa, none, rfl, nf6, (fun l hl => by cases hl), Nat.le_refl _, .refl _, .inr ⟨sa, [i, j, f], rfl, hs6, _, _, _, rfl, b1, b2, b3, b4, b5, b6⟩⟩ ?_ ?_
                      · rintro n σ G1 hn ⟨p, ls, sv, o14, rfl, nl, hls, hle, y1, hsv⟩
                        have hn5 : n < 5 := by omega
                        refine ⟨fun σ' H' => ∃ (p : Addr) (ls : List (List Int)), σ' = [some (.ref ra), some sv, some (.ref ia), some (.str "shore"), some (.ref b), some (.int f), some (.ref p), some (.ref pa'), o8, none, none, none, none, none, some (.int (0 + (n : Int))), none, none, none] ∧ NewL K H' p (ls.map tupI) ∧ (∀ l ∈ ls, stB rows.length wd l) ∧ ls.length ≤ n + 1 ∧ Ex G1 H', ?_, ?_⟩
                        · refine ⟨_, rfl, _, rfl, Evl.sz_of (by simp), fun p1 hp1 => ?_⟩
                          have z1 := ex_new (o := .lst [sv]) hp1
                          have last : ∀ (p9 : Addr) (G9 : Hp) (l9 : List (List Int)), Ex (upd G1 p1 (.lst [sv])) G9 → NewL K G9 p9 (l9.map tupI) → (∀ l ∈ l9, stB rows.length wd l) → l9.length ≤ 1 → rCat (.ref p) (.ref p9) G9 fun x H1 => gName 6 x [some (V.ref ra), some sv, some (V.ref ia), some (V.str "shore"), some (V.ref b), some (V.int f), some (V.ref p), some (V.ref pa'), o8, none, none, none, none, none, some (.int (0 + (n : Int))), none, none, none] H1 fun σ' H' => ∃ (p : Addr) (ls : List (List Int)), σ' = [some (V.ref ra), some sv, some (V.ref ia), some (V.str "shore"), some (V.ref b), some (V.int f), some (V.ref p), some (V.ref pa'), o8, none, none, none, none, none, some (.int (0 + (n : Int))), none, none, none] ∧ NewL K H' p (ls.map tupI) ∧ (∀ l ∈ ls, stB rows.length wd l) ∧ ls.length ≤ n + 1 ∧ Ex G1 H' := fun p9 G9 l9 x n9 h9 z9 => by
                            refine catL (K := K) (nl.ex (z1.trans x)) n9 (by simp; omega) fun p10 G10 y10 n10 => ?_
                            rw [← List.map_append] at n10
                            refine ⟨p10, ls ++ l9, rfl, n10, fun l hl => ?_, by rw [List.length_append]; omega, (z1.trans x).trans y10⟩
                            rcases List.mem_append.mp hl with h | h
                            · exact hls l h
                            · exact h9 l h
                          refine ⟨_, rfl, _, rfl, ia, _, 2, .int wa, rfl, rfl, rdm (y1.trans z1), atI_nat (j := 2) rfl, _, _, rfl, rfl, ?_⟩
                          refine ⟨_, rfl, ?_⟩
                          refine ifB (fun _ => ?_) (fun _ => ?_)
                          · refine ⟨_, rfl, rfl, .inr ⟨_, rfl, ?_⟩⟩
                            refine repL (K := K) (P := fun l => stB rows.length wd l) upd_same (fun e => ?_) fun p9 G9 l9 y9 n9 h9 z9 => last p9 G9 l9 y9 n9 h9 z9
                            rcases hsv with rfl | ⟨a, l, rfl, sl, st⟩
                            · cases e
                            · exact ⟨a, l, rfl, Evl.ex_t z1 sl, st⟩
                          · refine .inr ⟨false, rfl, ?_⟩
                            exact repL (K := K) (kb := false) (P := fun l => stB rows.length wd l) upd_same (fun e => by cases e) fun p9 G9 l9 y9 n9 h9 z9 => last p9 G9 l9 y9 n9 h9 z9
                        rintro σ' G2 ⟨p2, ls2, rfl, nl2, hls2, hle2, y2⟩
                        have y12 := y1.trans y2
                        refine ⟨_, rfl, rfl, _, rfl, ?_⟩
                        refine ifB (fun e => ?_) (fun _ => ⟨p2, ls2, .non, _, rfl, nl2, hls2, hle2, y12, .inl rfl⟩)
                        rcases hsv with rfl | ⟨a, l, rfl, sl, st⟩
                        · cases e
                        · obtain ⟨i', j', f', rfl, st2⟩ := st
                          refine ⟨_, rfl, _, rfl, _, rfl, ia, _, 1, .int sd, rfl, rfl, rdm y12, atI_nat (j := 1) rfl, ra, a, rows, wd, i', j', f', sd, rfl, Evl.ex_t y12 hr6, ok, Evl.ex_t y2 sl, fun G3 y3 => ?_, fun p3 G3 l3 y3 s3 st3 => ?_⟩
                          · exact ⟨p2, ls2, .non, _, rfl, nl2.ex y3, hls2, hle2, y12.trans y3, .inl rfl⟩
                          · exact ⟨p2, ls2, .ref p3, _, rfl, nl2.ex y3, hls2, hle2, y12.trans y3, .inr ⟨p3, l3, rfl, s3, st3⟩⟩
                      · rintro σ G1 ⟨p, ls, sv, o14, rfl, nl, hls, hle, y1, hsv⟩
                        exact ⟨p, ls, rfl, nl, hls, y1⟩
            · rintro σ' H7 ⟨p, ls, hσ, nl, hls, x7⟩
              refine ⟨_, hσ, ?_⟩
              refine setS ohi.2 owi.2 nl hls fun r H8 ls' x8 nl' hls' hz => q r H8 ls' ((x26.trans x7).trans x8) nl' hls' hz
end
end Om
end PartC6
section PartC7
set_option Elab.async false
set_option linter.all false
set_option maxRecDepth 100000
set_option maxHeartbeats 400000
namespace Om
open PySem PySem.Spec PyProof.Rows L2 He TL
def TsOk (ts : List Int) : Prop := ts ≠ [] ∧ ts.length ≤ 4 ∧ ∀ t ∈ ts, 0 ≤ t ∧ t < 4
/-- a drawn chart -/
def DrAt (K : Frg) (H : Hp) (da : Addr) (rows : List Str) (wd : Nat) (sg : Str) (ts : List Int) (iss : List (List PyData)) : Prop := ∃ (ra ta ia : Addr) (xi : List V), SqT K H da [.ref ra, .str sg, .ref ta, .ref ia] ∧ SqT K H ra (rows.map V.str) ∧ RowsOk rows wd ∧ SgT sg ∧ SqT K H ta (ts.map V.int) ∧ TsOk ts ∧
  SqT K H ia xi ∧ DpAll K H xi (iss.map PyData.tuple) ∧ (∀ d ∈ iss, InsG d) ∧ iss.length ≤ 4
theorem DrAt.ex {K : Frg} {H H' : Hp} {da : Addr} {rows : List Str} {wd : Nat} {sg : Str} {ts : List Int} {iss : List (List PyData)} (h : DrAt K H da rows wd sg ts iss) (x : Ex H H') : DrAt K H' da rows wd sg ts iss := by
  obtain ⟨ra, ta, ia, xi, h1, h2, h3, h4, h5, h6, h7, h8, h9, h10⟩ := h
  exact ⟨ra, ta, ia, xi, Evl.ex_t x h1, Evl.ex_t x h2, h3, h4, Evl.ex_t x h5, h6, Evl.ex_t x h7, dps_ex x h8, h9, h10⟩
section
variable {w : World} {K : Frg} {mg : Str → Option Value} {base : Heap}
/-- _law_behind -/
def sp__law_behind (K : Frg) : Sp := fun vs H Q _ => ∃ (ra sl ia : Addr) (rows : List Str) (wd : Nat) (ls : List (List Int)) (ds : List PyData), vs = [.ref ra, .ref sl, .ref ia] ∧ SqT K H ra (rows.map V.str) ∧ RowsOk rows wd ∧ NewL K H sl (ls.map tupI) ∧ (∀ l ∈ ls, stB rows.length wd l) ∧ ls.length ≤ 76 ∧
  Dp K H (.ref ia) (.tuple ds) ∧ InsG ds ∧ ∀ (p : Addr) (H' : Hp) (ls : List (List Int)), Ex H H' → NewL K H' p (ls.map tupI) → (∀ l ∈ ls, stB rows.length wd l) → ls.length ≤ 76 → Q (.ref p) H'
theorem sc__law_behind : FnScope ["_law_rows_here", "_law_states", "_law_instruction", "_law_found", "_law_state"] ["_law_rows_here", "_law_states", "_law_instruction"] (defScope s__law_behind) := ⟨rfl, rfl, rfl, by decide +kernel, rfl, by decide +kernel, by decide +kernel⟩
theorem ok__law_behind (T : Tx w K mg) : FnOk prg w K mg base CX0 4 (ga K "_law_behind") (fdOf K (ga K "_law_behind")) ["_law_rows_here", "_law_states", "_law_instruction"] (sp__law_behind K) := by
  refine T.f__law_behind.ok sc__law_behind (fun vs H Q E h => ?_) (fun cdv A outer s H vs Q E hr h => ?_)
  · obtain ⟨ra, sl, ia, rows, wd, ls, ds, rfl, _⟩ := h
    rfl
  · obtain ⟨ra, sl, ia, rows, wd, ls, ds, rfl, hr0, ok, nl, hls, hz, hi, ig, q⟩ := h
    refine ⟨_, PSs.nox (pss_cons (ps_set (i := 3) sc__law_behind.nd rfl (Or.inl rfl) (pe_lst pa_nil))
      (pss_cons (ps_for PassesOwn.never rfl (pi_list (pv 1)) (pg_name (i := 4) sc__law_behind.nd rfl (Or.inl rfl)) (pss_one (ps_set (i := 3) sc__law_behind.nd rfl (Or.inl rfl) (pe_op op_cat (pv 3) (pe_call (ok__law_steps T) (hr.mono (by decide)) (by rfl) T.g__law_steps T.f__law_steps.kp T.p__law_steps .nil pass0 (pa_cons (pv 0) (pa_cons (pv 4) (pa_cons (pv 2) pa_nil))))))))
      (pss_one (ps_ret (pe_callB (cr_tusSorted rfl hr.units) (by rfl) T.b_sorted boot_sorted (pa_cons (pe_callTy (cr_tus rfl hr.units) (by rfl) T.b_set boot_set (pa_cons (pv 3) pa_nil)) pa_nil)))))), ?_⟩
    have ohi := ok.hi
    have owi := ok.wi
    obtain ⟨xp, np3, np4⟩ := nl.sq
    rw [List.length_map] at np4
    refine ⟨Evl.sz_of (by simp), fun pf hpf => ?_⟩
    have xf := ex_new (o := .lst []) hpf
    have nf : NewL K (upd H pf (.lst [])) pf (([] : List (List Int)).map tupI) := ⟨[], upd_same, .nil, rfl⟩
    refine ⟨_, rfl, sl, rfl, ⟨xp, .of (xf _ _ np3)⟩, ?_⟩
    refine for_it (walk_list (K := K) (a := sl) (xs := xp)) (fun n σ H' => ∃ (p : Addr) (ls' : List (List Int)) (o : Option V), σ = [some (.ref ra), some (.ref sl), some (.ref ia), some (.ref p), o] ∧ NewL K H' p (ls'.map tupI) ∧ (∀ l ∈ ls', stB rows.length wd l) ∧ ls'.length ≤ 76 * n ∧ Ex H H')
      ⟨pf, [], none, rfl, nf, (fun l hl => by cases hl), Nat.le_refl _, xf⟩ (fun n σ H' _ hP => ?_) ?_ ?_
    · obtain ⟨_, _, _, _, _, _, _, x⟩ := hP
      exact .of (x _ _ np3)
    · rintro n x σ H1 H' hn ⟨p, ls', o, rfl, nl', hls', hle, x1⟩ ⟨rfl, hx⟩
      obtain ⟨a, l, rfl, hl, sl'⟩ := nl.at np3 hx
      refine ⟨_, rfl, _, rfl, _, rfl, _, rfl, ra, a, ia, rows, wd, l, ds, rfl, Evl.ex_t x1 hr0, ok, Evl.ex_t x1 sl', hls l hl, dp_ex x1 hi, ig, fun p2 H2 l2 x2 n2 h2 z2 => ?_⟩
      refine catL (K := K) (nl'.ex x2) n2 (by rw [List.length_map, List.length_map]; omega) fun p3 H3 x3 n3 => ?_
      rw [← List.map_append] at n3
      refine ⟨p3, ls' ++ l2, _, rfl, n3, fun l hl => ?_, by rw [List.length_append]; omega, (x1.trans x2).trans x3⟩
      rcases List.mem_append.mp hl with h | h
      · exact hls' l h
      · exact h2 l h
    · rintro σ H1 ⟨p, ls', o, rfl, nl', hls', hle, x1⟩
      refine ⟨_, rfl, ?_⟩
      exact setS ohi.2 owi.2 nl' hls' fun r H8 l8 x8 n8 h8 z8 => q r H8 l8 (x1.trans x8) n8 h8 z8
/-- _law_begin -/
def sp__law_begin (K : Frg) : Sp := fun vs H Q _ => ∃ (da : Addr) (rows : List Str) (wd : Nat) (sg : Str) (ts : List Int) (iss : List (List PyData)), vs = [.ref da] ∧ DrAt K H da rows wd sg ts iss ∧
  ∀ (p : Addr) (H' : Hp) (ls : List (List Int)), Ex H H' → NewL K H' p (ls.map tupI) → (∀ l ∈ ls, stB rows.length wd l) → ls.length ≤ 76 → Q (.ref p) H'
theorem sc__law_begin : FnScope ["_law_drawn_here", "_law_found", "_law_cell", "_law_facing"] ["_law_drawn_here"] (defScope s__law_begin) := ⟨rfl, rfl, rfl, by decide +kernel, rfl, by decide +kernel, by decide +kernel⟩
theorem ok__law_begin (T : Tx w K mg) : FnOk prg w K mg base CX0 2 (ga K "_law_begin") (fdOf K (ga K "_law_begin")) ["_law_drawn_here"] (sp__law_begin K) := by
  refine T.f__law_begin.ok sc__law_begin (fun vs H Q E h => ?_) (fun cdv A outer s H vs Q E hr h => ?_)
  · obtain ⟨da, rows, wd, sg, ts, iss, rfl, _⟩ := h
    rfl
  · obtain ⟨da, rows, wd, sg, ts, iss, rfl, hd, q⟩ := h
    refine ⟨_, PSs.nox (pss_cons (ps_set (i := 1) sc__law_begin.nd rfl (Or.inl rfl) (pe_lst pa_nil))
      (pss_cons (ps_for PassesOwn.never rfl (pi_list (pe_call (ok__law_cells T) (hr.mono (by decide)) (by rfl) T.g__law_cells T.f__law_cells.kp T.p__law_cells .nil pass0 (pa_cons (pe_ix ix_tup (pv 0) pe_int (fun _ _ => rfl)) pa_nil))) (pg_name (i := 2) sc__law_begin.nd rfl (Or.inr rfl)) (pss_one (ps_if (pt_cmpR op_in_str (pe_call (ok__law_sign T) (hr.mono (by decide)) (by rfl) T.g__law_sign T.f__law_sign.kp T.p__law_sign .nil pass0 (pa_cons (pe_ix ix_tup (pv 0) pe_int (fun _ _ => rfl)) (pa_cons (pv 2) pa_nil))) (pe_ix ix_tup (pv 0) pe_int (fun _ _ => rfl)) (by rfl)) (pss_one (ps_set (i := 1) sc__law_begin.nd rfl (Or.inl rfl) (pe_op op_cat (pv 1) (pe_lc (own := [("_law_facing", 3)]) (g := gName 3) rfl sc__law_begin.nd (pi_tup (pe_ix ix_tup (pv 0) pe_int (fun _ _ => rfl))) (blkOk_by (own := [("_law_facing", 3)]) (N := ["_law_drawn_here", "_law_found", "_law_cell", "_law_facing"]) (sc := defScope s__law_begin) (by decide +kernel)) (fun _ _ _ _ _ => pg_name (i := 3) sc__law_begin.nd rfl (Or.inl rfl)) (fun _ _ _ _ _ => pts_nil) (fun _ _ _ _ _ => (pe_op (kOp (K := K) (r := rCatA) rfl op_catA) (pv 2) (pe_tup (pa_cons (pv 3) pa_nil)))))))) pss_nil)))
      (pss_one (ps_ret (pv 1))))), ?_⟩
    obtain ⟨ra, ta, ia, xi, h1, h2, ok, h4, h5, ⟨t1, t2, t3⟩, h7, h8, h9, h10⟩ := hd
    have ohi := ok.hi
    have owi := ok.wi
    refine ⟨Evl.sz_of (by simp), fun pf hpf => ?_⟩
    have xf := ex_new (o := .lst []) hpf
    have nf : NewL K (upd H pf (.lst [])) pf (([] : List (List Int)).map tupI) := ⟨[], upd_same, .nil, rfl⟩
    generalize upd H pf (.lst []) = H1 at xf nf ⊢
    refine ⟨_, rfl, da, _, 0, .ref ra, rfl, rfl, Evl.ex_t xf h1, atI_nat (j := 0) rfl, ra, rows, wd, rfl, Evl.ex_t xf h2, ok, fun pc H2 lc x2 nc hc zc _ => ?_⟩
    obtain ⟨xp, np3, np4⟩ := nc.sq
    rw [List.length_map] at np4
    refine ⟨pc, rfl, ⟨xp, .of np3⟩, ?_⟩
    have x12 := xf.trans x2
    refine for_it (walk_list (K := K) (a := pc) (xs := xp)) (fun n σ H' => ∃ (p : Addr) (ls' : List (List Int)) (o : Option V), σ = [some (.ref da), some (.ref p), o, none] ∧ NewL K H' p (ls'.map tupI) ∧ (∀ l ∈ ls', stB rows.length wd l) ∧ ls'.length ≤ 4 * n ∧ Ex H2 H')
      ⟨pf, [], none, rfl, nf.ex x2, (fun l hl => by cases hl), Nat.le_refl _, .refl _⟩ (fun n σ H' _ hP => ?_) ?_ ?_
    · obtain ⟨_, _, _, _, _, _, _, x⟩ := hP
      exact .of (x _ _ np3)
    · rintro n x σ H3 H' hn ⟨p, ls', o, rfl, nl', hls', hle, x3⟩ ⟨rfl, hx⟩
      obtain ⟨a, l, rfl, hl, sl⟩ := nc.at np3 hx
      obtain ⟨i', j', rfl, g1, g2, g3, g4⟩ := hc l hl
      have x13 := x12.trans x3
      refine ⟨_, rfl, da, _, 0, .ref ra, rfl, rfl, Evl.ex_t x13 h1, atI_nat (j := 0) rfl, _, rfl, ra, a, rows, wd, i', j', [], rfl, Evl.ex_t x13 h2, ok, Evl.ex_t x3 sl, _, rfl, da, _, 1, .str sg, rfl, rfl, Evl.ex_t x13 h1, atI_nat (j := 1) rfl, _, _, rfl, rfl, _, rfl, ?_⟩
      refine ifB (fun _ => ?_) (fun _ => ⟨p, ls', _, rfl, nl', hls', by omega, x3⟩)
      refine ⟨_, rfl, _, rfl, da, _, 2, .ref ta, rfl, rfl, Evl.ex_t x13 h1, atI_nat (j := 2) rfl, ta, rfl, ⟨_, Evl.ex_t x13 h5⟩, fun D hD => ?_⟩
      refine lcD (K := K) (S := []) (g := gName 3) (walk_tup (K := K) (a := ta) (xs := ts.map V.int)) hD (fun _ => True) (fun m ds => ∃ ls : List (List Int), ds = ls.map tupI ∧ ls.length ≤ m ∧ ∀ l ∈ ls, stB rows.length wd l) (by simp) (by rw [List.length_map]; omega) (fun _ _ _ => trivial) (fun H' k _ => Evl.ex_t (x13.trans k.ex) h5) trivial ⟨[], rfl, Nat.le_refl _, fun l hl => by cases hl⟩ ?_ ?_
      · rintro m x Ha Hb ds P1 P2 hm ⟨ls, rfl, hlm, hls⟩ k1 _ ⟨rfl, hx⟩ c1 c2
        rw [List.getElem?_map, Option.map_eq_some_iff] at hx
        obtain ⟨t, ht, rfl⟩ := hx
        have tb := t3 t (List.mem_of_getElem? ht)
        refine ⟨rfl, tY ⟨_, rfl, _, rfl, Evl.sz_of (by simp), fun p hp => ?_⟩⟩
        refine catA (K := K) (Evl.ex_t ((x3.trans k1.ex).trans (ex_new hp)) sl) (.of upd_same) (by simp) fun p2 G2 y2 s2 => ?_
        refine c1 _ (tupI [i', j', t]) _ (.of ((ex_new hp).trans y2)) trivial (dp_tupI (l := [i', j', t]) s2) (tupI_ok _) ⟨ls ++ [[i', j', t]], by rw [List.map_append]; rfl, by rw [List.length_append]; simp; omega, fun l hl => ?_⟩
        rcases List.mem_append.mp hl with h | h
        · exact hls l h
        · rw [List.mem_singleton.mp h]
          exact ⟨_, _, _, rfl, g1, g2, g3, g4, tb.1, tb.2⟩
      · rintro G1 ds k1 _ nd ⟨ls, rfl, hlm, hls⟩ _
        rw [List.length_map] at hlm
        refine catL (K := K) (nl'.ex k1.ex) nd (by rw [List.length_map, List.length_map]; omega) fun p3 H5 x5 n3 => ?_
        rw [← List.map_append] at n3
        refine ⟨p3, ls' ++ ls, _, rfl, n3, fun l hl => ?_, by rw [List.length_append]; omega, (x3.trans k1.ex).trans x5⟩
        rcases List.mem_append.mp hl with h | h
        · exact hls' l h
        · exact hls l h
    · rintro σ H3 ⟨p, ls', o, rfl, nl', hls', hle, x3⟩
      exact ⟨_, rfl, q p H3 ls' (x12.trans x3) nl' hls' (by omega)⟩
/-- _law_final -/
def sp__law_final (K : Frg) : Sp := fun vs H Q _ => ∃ (da : Addr) (rows : List Str) (wd : Nat) (sg : Str) (ts : List Int) (iss : List (List PyData)), vs = [.ref da] ∧ DrAt K H da rows wd sg ts iss ∧
  ∀ (p : Addr) (H' : Hp) (ls : List (List Int)), Ex H H' → NewL K H' p (ls.map tupI) → Q (.ref p) H'
theorem sc__law_final : FnScope ["_law_drawn_here", "_law_states", "_law_instruction"] ["_law_drawn_here"] (defScope s__law_final) := ⟨rfl, rfl, rfl, by decide +kernel, rfl, by decide +kernel, by decide +kernel⟩
theorem ok__law_final (T : Tx w K mg) : FnOk prg w K mg base CX0 5 (ga K "_law_final") (fdOf K (ga K "_law_final")) ["_law_drawn_here"] (sp__law_final K) := by
  refine T.f__law_final.ok sc__law_final (fun vs H Q E h => ?_) (fun cdv A outer s H vs Q E hr h => ?_)
  · obtain ⟨da, rows, wd, sg, ts, iss, rfl, _⟩ := h
    rfl
  · obtain ⟨da, rows, wd, sg, ts, iss, rfl, hd, q⟩ := h
    refine ⟨_, PSs.nox (pss_cons (ps_set (i := 1) sc__law_final.nd rfl (Or.inl rfl) (pe_call (ok__law_begin T) (hr.mono (by decide)) (by rfl) T.g__law_begin T.f__law_begin.kp T.p__law_begin .nil pass0 (pa_cons (pv 0) pa_nil)))
      (pss_cons (ps_for PassesOwn.never rfl (pi_tup (pe_ix ix_tup (pv 0) pe_int (fun _ _ => rfl))) (pg_name (i := 2) sc__law_final.nd rfl (Or.inl rfl)) (pss_one (ps_set (i := 1) sc__law_final.nd rfl (Or.inl rfl) (pe_call (ok__law_behind T) (hr.mono (by decide)) (by rfl) T.g__law_behind T.f__law_behind.kp T.p__law_behind .nil pass0 (pa_cons (pe_ix ix_tup (pv 0) pe_int (fun _ _ => rfl)) (pa_cons (pv 1) (pa_cons (pv 2) pa_nil)))))))
      (pss_one (ps_ret (pv 1))))), ?_⟩
    refine ⟨_, rfl, da, rows, wd, sg, ts, iss, rfl, hd, fun pb H1 lb x1 nb hb zb => ?_⟩
    obtain ⟨ra, ta, ia, xi, h1, h2, ok, h4, h5, h6, h7, h8, h9, h10⟩ := hd.ex x1
    refine ⟨_, rfl, da, _, 3, .ref ia, rfl, rfl, h1, atI_nat (j := 3) rfl, ia, rfl, ⟨_, h7⟩, ?_⟩
    refine for_it (walk_tup (K := K) (a := ia) (xs := xi)) (fun n σ H' => ∃ (p : Addr) (ls' : List (List Int)) (o : Option V), σ = [some (.ref da), some (.ref p), o] ∧ NewL K H' p (ls'.map tupI) ∧ (∀ l ∈ ls', stB rows.length wd l) ∧ ls'.length ≤ 76 ∧ Ex H1 H')
      ⟨pb, lb, none, rfl, nb, hb, zb, .refl _⟩ (fun n σ H' _ hP => ?_) ?_ ?_
    · obtain ⟨_, _, _, _, _, _, _, x⟩ := hP
      exact Evl.ex_t x h7
    · rintro n x σ H2 H' hn ⟨p, ls', o, rfl, nl', hls', hle, x2⟩ ⟨rfl, hx⟩
      have hn2 : n < iss.length := by rw [dps_len h8, List.length_map] at hn; exact hn
      obtain ⟨d, hd2⟩ : ∃ d, iss[n]? = some d := ⟨_, List.getElem?_eq_getElem hn2⟩
      obtain ⟨x', ex', dx⟩ := dps_at h8 (show (iss.map PyData.tuple)[n]? = some (.tuple d) by rw [List.getElem?_map, hd2]; rfl)
      rw [hx] at ex'
      cases ex'
      cases dx with
      | tup s1 s2 =>
        refine ⟨_, rfl, da, _, 0, .ref ra, rfl, rfl, Evl.ex_t x2 h1, atI_nat (j := 0) rfl, _, rfl, _, rfl, ra, p, _, rows, wd, ls', d, rfl, Evl.ex_t x2 h2, ok, nl', hls', hle, dp_ex x2 (.tup s1 s2), h9 d (List.mem_of_getElem? hd2), fun p2 H3 l2 x3 n2 h2' z2 => ?_⟩
        exact ⟨p2, l2, _, rfl, n2, h2', z2, x2.trans x3⟩
    · rintro σ H2 ⟨p, ls', o, rfl, nl', hls', hle, x2⟩
      exact ⟨_, rfl, q p H2 ls' (x1.trans x2) nl'⟩
end
end Om
end PartC7
section PartPL10
set_option Elab.async false
set_option linter.all false
/-! Plain lemmas: join, what a line holds. -/
namespace Om
open PySem L2 TL
theorem tj (y : Str) (ps : List Str) : tl (Txt.join y ps) = joinL (tl y) (ps.map tl) := by rw [join_eq, tl_join]
theorem mem_joinL {S : List Nat} {c : Nat} : ∀ {ps : List (List Nat)}, c ∈ joinL S ps → c ∈ S ∨ ∃ p ∈ ps, c ∈ p
  | [], h => by cases h
  | [p], h => .inr ⟨p, .head _, h⟩
  | p :: q :: r, h => by
    have h : c ∈ p ++ (S ++ joinL S (q :: r)) := h
    rcases List.mem_append.mp h with h | h
    · exact .inr ⟨p, .head _, h⟩
    · rcases List.mem_append.mp h with h | h
      · exact .inl h
      · rcases mem_joinL h with h | ⟨x, hx, hc⟩
        · exact .inl h
        · exact .inr ⟨x, .tail _ hx, hc⟩
theorem len_joinL {S : List Nat} : ∀ ps : List (List Nat), (joinL S ps).length ≤ (ps.map (·.length)).sum + (ps.length - 1) * S.length
  | [] => Nat.zero_le _
  | [p] => by simp [joinL]
  | p :: q :: r => by
    have ih := len_joinL (S := S) (q :: r)
    show (p ++ (S ++ joinL S (q :: r))).length ≤ _
    simp only [List.length_append, List.map_cons, List.sum_cons, List.length_cons, Nat.add_sub_cancel] at ih ⊢
    rw [Nat.succ_mul]
    omega
theorem strOk_iff {z : Str} : PyData.strOk z = true ↔ ∀ c ∈ tl z, c < 0x110000 := by
  unfold PyData.strOk
  rw [← Array.all_toList, List.all_eq_true]
  exact ⟨fun h c hc => of_decide_eq_true (h c hc), fun h c hc => decide_eq_true (h c hc)⟩
theorem gsn_small : ∀ c ∈ gsn, c < 0x110000 := by decide
theorem sgT_of {z : Str} (h1 : (tl z).length ≤ 5) (h2 : ∀ c ∈ tl z, c ∈ gsn) : SgT z := ⟨strOk_iff.mpr fun c hc => gsn_small c (h2 c hc), h1, h2⟩
theorem sgT_join {ss : List Str} (h : ∀ s ∈ ss, ∃ c ∈ gsn, s = oneS c) (hz : ss.length ≤ 5) : SgT (Txt.join "" ss) := by
  have e0 : tl (Str.ofString "") = [] := by decide +kernel
  refine sgT_of ?_ fun c hc => ?_
  · rw [tj, e0]
    refine Nat.le_trans (len_joinL _) ?_
    have : ∀ l : List Str, (∀ s ∈ l, ∃ c ∈ gsn, s = oneS c) → ((l.map tl).map (·.length)).sum = l.length := fun l => by
      induction l with
      | nil => intro _; rfl
      | cons a r ih =>
        intro hl
        obtain ⟨c, _, e⟩ := hl a (.head _)
        rw [List.map_cons, List.map_cons, List.sum_cons, ih fun s hs => hl s (.tail _ hs), e]
        show 1 + r.length = r.length + 1
        omega
    rw [this ss h]
    simp
    exact hz
  · rw [tj, e0] at hc
    rcases mem_joinL hc with h' | ⟨p, hp, hc⟩
    · cases h'
    · obtain ⟨s, hs, rfl⟩ := List.mem_map.mp hp
      obtain ⟨d, hd, rfl⟩ := h s hs
      have : c ∈ [d] := hc
      rw [List.mem_singleton.mp this]
      exact hd
theorem map_tl_inj' {a b : List Str} (h : a.map tl = b.map tl) : a = b := TL.map_tl_inj h
/-- the lines of a text that is joined of them -/
theorem split_join {ls : List Str} (hn : ls ≠ []) (h : ∀ l ∈ ls, 10 ∉ tl l) : Txt.split (Txt.join "\n" ls) "\n" = ls := by
  have e1 : tl (Str.ofString "\n") = [10] := by decide +kernel
  refine map_tl_inj' ?_
  rw [split_spl _ _ (by rw [e1]; simp) (kind_ok (by decide +kernel)), tj, e1]
  refine spl_join (by simpa using hn) fun p hp => ?_
  obtain ⟨l, hl, rfl⟩ := List.mem_map.mp hp
  exact h l hl
theorem spl_bd (S : List Nat) : ∀ (k : Nat) (acc l : List Nat), (spl S k acc l).length ≤ l.length + 1 ∧ ∀ w ∈ spl S k acc l, w.length ≤ acc.length + l.length ∧ ∀ c ∈ w, c ∈ acc ∨ c ∈ l
  | k, acc, [] => by
    rw [spl_nil]
    refine ⟨Nat.le_refl _, fun w hw => ?_⟩
    rw [List.mem_singleton.mp hw]
    exact ⟨Nat.le_refl _, fun c hc => .inl hc⟩
  | 0, acc, c :: r => by
    by_cases hp : pre S (c :: r) = true
    · rw [spl_hit hp]
      obtain ⟨h1, h2⟩ := spl_bd S (S.length - 1) [] r
      refine ⟨by simp only [List.length_cons]; omega, fun w hw => ?_⟩
      rcases List.mem_cons.mp hw with e | hw
      · rw [e]
        exact ⟨Nat.le_add_right _ _, fun c hc => .inl hc⟩
      · obtain ⟨g1, g2⟩ := h2 w hw
        refine ⟨by simp only [List.length_cons, List.length_nil] at g1 ⊢; omega, fun d hd => .inr ?_⟩
        rcases g2 d hd with h | h
        · cases h
        · exact .tail _ h
    · rw [spl_miss (by simpa using hp)]
      obtain ⟨h1, h2⟩ := spl_bd S 0 (acc ++ [c]) r
      refine ⟨by simp only [List.length_cons]; omega, fun w hw => ?_⟩
      obtain ⟨g1, g2⟩ := h2 w hw
      refine ⟨by simp only [List.length_append, List.length_cons, List.length_nil] at g1 ⊢; omega, fun d hd => ?_⟩
      rcases g2 d hd with h | h
      · rcases List.mem_append.mp h with h | h
        · exact .inl h
        · rw [List.mem_singleton.mp h]
          exact .inr (.head _)
      · exact .inr (.tail _ h)
  | k + 1, acc, c :: r => by
    obtain ⟨h1, h2⟩ := spl_bd S k acc r
    have e : spl S (k + 1) acc (c :: r) = spl S k acc r := rfl
    rw [e]
    refine ⟨by simp only [List.length_cons]; omega, fun w hw => ?_⟩
    obtain ⟨g1, g2⟩ := h2 w hw
    refine ⟨by simp only [List.length_cons]; omega, fun d hd => ?_⟩
    rcases g2 d hd with h | h
    · exact .inl h
    · exact .inr (.tail _ h)
/-- a line -/
def LnT (n : Nat) (z : Str) : Prop := (∀ c ∈ tl z, c < 0x110000 ∧ c ≠ 10) ∧ (tl z).length ≤ n
theorem words_bd {n : Nat} {z : Str} (h : LnT n z) : Txt.split z " " ≠ [] ∧ (Txt.split z " ").length ≤ n + 1 ∧ ∀ w ∈ Txt.split z " ", LnT n w := by
  have e1 : tl (Str.ofString " ") = [32] := by decide +kernel
  have e := split_spl z (Str.ofString " ") (by rw [e1]; simp) (kind_ok (by decide +kernel))
  rw [e1] at e
  obtain ⟨h1, h2⟩ := spl_bd [32] 0 [] (tl z)
  rw [← e] at h1 h2
  rw [List.length_map] at h1
  refine ⟨split_ne (by rw [e1]; simp) (by decide +kernel) z, Nat.le_trans h1 (Nat.succ_le_succ h.2), fun w hw => ?_⟩
  obtain ⟨g1, g2⟩ := h2 (tl w) (List.mem_map.mpr ⟨w, hw, rfl⟩)
  refine ⟨fun c hc => ?_, ?_⟩
  · rcases g2 c hc with h' | h'
    · cases h'
    · exact h.1 c h'
  · have := h.2
    simp only [List.length_nil] at g1
    omega
end Om
end PartPL10
section PartC8
set_option Elab.async false
set_option linter.all false
set_option maxRecDepth 100000
set_option maxHeartbeats 400000
namespace Om
open PySem PySem.Spec PyProof.Rows L2 He TL
theorem HX.fresh {H : Hp} {ha la D : Addr} (h : HX H ha la) (hD : H D = none) : D ∉ [ha, la] := by
  obtain ⟨s, c, cs, h1, h2, _⟩ := h
  intro hm
  rcases List.mem_cons.mp hm with e | hm
  · rw [e, h1] at hD
    cases hD
  · rw [List.mem_singleton.mp hm, h2] at hD
    cases hD
theorem HX.put {H : Hp} {ha la D : Addr} {o : HO} (h : HX H ha la) (hD : D ∉ [ha, la]) : HX (upd H D o) ha la := by
  obtain ⟨s, c, cs, h1, h2, h3⟩ := h
  exact ⟨s, c, cs, by rw [upd_ne (fun e => hD (by rw [← e]; exact .head _))]; exact h1, by rw [upd_ne (fun e => hD (by rw [← e]; exact .tail _ (.head _)))]; exact h2, h3⟩
theorem HX.new {H : Hp} {ha la D : Addr} {o : HO} (h : HX H ha la) (hD : H D = none) : HX (upd H D o) ha la := h.ex (ex_new hD)
theorem nil_neTI {K : Frg} {H : Hp} {a p : Addr} {l : List Int} {Q : VK} (h : SqT K H a (l.map V.int)) (hp : H p = some (.tup [])) (k : Q (.bl (!l.isEmpty)) H) : rNeD K (.ref a) (.ref p) H Q :=
  ⟨.tuple (l.map PyData.int), .tuple [], .tup h (dps_int l), .tup (.of hp) .nil, shaped_tup (tupDs_int 1 l) (by decide), rfl, by
    rw [eqv_nilT]
    have : (l.map PyData.int).isEmpty = l.isEmpty := by cases l <;> rfl
    rw [this]
    exact k⟩
theorem sq_ky {K : Frg} {S : List Addr} {H H' : Hp} {a : Addr} {l : List Int} (h : SqT K H a (l.map V.int)) (k : Ky S H H') : SqT K H' a (l.map V.int) := by
  obtain ⟨b, e, s⟩ := dp_tupI_inv (dp_tk k.2 (tupI_ok l) (dp_tupI h))
  cases e
  exact s
theorem gsn_of {c : Nat} {kn : Str} (h : SgT kn) (hc : c ∈ tl kn) : c ∈ gsn := h.2.2 c hc
section
variable {w : World} {K : Frg} {mg : Str → Option Value} {base : Heap}
/-- _law_signs -/
def sp__law_signs (K : Frg) : Sp := fun vs H Q _ => ∃ (ha la : Addr) (kn : Str), vs = [.ref ha, .str kn] ∧ HX H ha la ∧ SgT kn ∧ tl kn ≠ [] ∧ ∀ (z : Str) (H' : Hp), SgT z → Ky [ha, la] H H' → HX H' ha la → Q (.str z) H'
theorem sc__law_signs : FnScope ["_law_h", "_law_known", "_law_found", "_law_sign_here"] ["_law_h", "_law_known"] (defScope s__law_signs) := ⟨rfl, rfl, rfl, by decide +kernel, rfl, by decide +kernel, by decide +kernel⟩
theorem ok__law_signs (T : Tx w K mg) : FnOk prg w K mg base CX0 2 (ga K "_law_signs") (fdOf K (ga K "_law_signs")) ["_law_h", "_law_known"] (sp__law_signs K) := by
  refine T.f__law_signs.ok sc__law_signs (fun vs H Q E h => ?_) (fun cdv A outer s H vs Q E hr h => ?_)
  · obtain ⟨ha, la, kn, rfl, _⟩ := h
    rfl
  · obtain ⟨ha, la, kn, rfl, hx, sg, ne, q⟩ := h
    refine ⟨_, PSs.nox (pss_cons (ps_set (i := 2) sc__law_signs.nd rfl (Or.inl rfl) (pe_bm PySem.F.plainAttrs_str PySem.F.slot_str_join PySem.F.type_str_join mt_join pe_str (pa_cons (pe_lc (own := [("_law_sign_here", 3)]) (g := gName 3) rfl sc__law_signs.nd (pi_str (pv 1)) (blkOk_by (own := [("_law_sign_here", 3)]) (N := ["_law_h", "_law_known", "_law_found", "_law_sign_here"]) (sc := defScope s__law_signs) (by decide +kernel)) (fun _ _ _ _ _ => pg_name (i := 3) sc__law_signs.nd rfl (Or.inl rfl)) (fun _ _ _ _ _ => pts_one (pt_cmpR op_eq (pe_call (ok__law_next T) (hr.mono (by decide)) (by rfl) T.g__law_next T.f__law_next.kp T.p__law_next .nil pass0 (pa_cons (pv 0) (pa_cons pe_int pa_nil))) pe_int (nomark _))) (fun _ _ _ _ _ => (pv 3))) pa_nil)))
      (pss_one (ps_ret (pe_ifExp (pt_cmpR op_ne (pv 2) pe_str (nomark _)) (pv 2) (pe_ix ix_str (pv 1) (pe_call (ok__law_next T) (hr.mono (by decide)) (by rfl) T.g__law_next T.f__law_next.kp T.p__law_next .nil pass0 (pa_cons (pv 0) (pa_cons (pe_callB call_len_str (by rfl) T.b_len PySem.boot_len (pa_cons (pv 1) pa_nil)) pa_nil))) (fun _ _ => rfl)))))), ?_⟩
    have szk : kn.cps.size ≤ 5 := sg.2.1
    have szl : kn.length ≤ sizeLine := Evl.sz_of (show kn.cps.size ≤ 100000 by omega)
    refine ⟨rfl, _, rfl, kn, rfl, fun D hD => ?_⟩
    have hDn := hx.fresh hD
    refine lcD (K := K) (S := [ha, la]) (g := gName 3) (walk_str (z := kn)) hD (fun H' => HX H' ha la) (fun m ds => ∃ ss : List Str, ds = ss.map PyData.str ∧ (∀ s ∈ ss, ∃ c ∈ gsn, s = oneS c) ∧ ss.length ≤ m) hDn (by omega) (fun H' l h => h.put hDn) (fun _ _ _ => trivial) hx ⟨[], rfl, (fun s hs => by cases hs), Nat.le_refl _⟩ ?_ ?_
    · rintro m x Ha Hb ds P1 P2 hm ⟨ss, rfl, a1, a2⟩ k1 hxa ⟨rfl, c, hc, rfl⟩ c1 c2
      have hc' : (tl kn)[m]? = some c := by rw [← hc]; exact Array.getElem?_toList
      have hg := gsn_of sg (List.mem_of_getElem? hc')
      refine ⟨rfl, _, rfl, ha, la, 2, rfl, hxa, by decide, by decide, fun v H2 v0 v1 k2 hx2 => ⟨rfl, _, rfl, ?_⟩⟩
      refine ifB (fun _ => ⟨_, rfl, c1 _ (.str (oneS c)) _ k2 hx2 (.str _) (by unfold tupOnly tupD; exact one_ok hg) ⟨ss ++ [oneS c], by rw [List.map_append]; rfl, fun s hs => ?_, by rw [List.length_append]; simp; omega⟩⟩) (fun _ => c2 _ k2 hx2 ⟨ss, rfl, a1, by omega⟩)
      rcases List.mem_append.mp hs with h | h
      · exact a1 s h
      · exact ⟨c, hg, List.mem_singleton.mp h⟩
    · rintro H5 ds k1 hx5 nd ⟨ss, rfl, a1, a2⟩ _
      obtain ⟨xs, e1, e2, _⟩ := nd
      obtain rfl := dps_str_eq e2
      have s1 : ∀ l : List Str, (∀ s ∈ l, ∃ c ∈ gsn, s = oneS c) → (l.map (·.length)).sum = l.length := fun l => by
        induction l with
        | nil => intro _; rfl
        | cons a r ih =>
          intro hl
          obtain ⟨c, _, e⟩ := hl a (.head _)
          rw [List.map_cons, List.sum_cons, ih fun s hs => hl s (.tail _ hs), e]
          show 1 + r.length = r.length + 1
          omega
      have l5 : ss.length ≤ 5 := by omega
      have l0 : (Str.ofString "").length = 0 := by decide +kernel
      refine ⟨_, D, ss, rfl, rfl, .inl (.of e1), by rw [s1 ss a1, l0]; omega, ?_⟩
      refine ⟨_, rfl, rfl, _, rfl, ?_⟩
      refine ifB (fun _ => ⟨_, rfl, q _ _ (sgT_join a1 l5) k1 hx5⟩) (fun _ => ?_)
      have kl : 1 ≤ kn.length := by
        rw [len_tl]
        exact List.length_pos_iff.mpr ne
      have kl5 : kn.length ≤ 5 := szk
      refine ⟨_, rfl, _, rfl, _, rfl, kn, rfl, szl, ha, la, _, rfl, hx5, by omega, by omega, fun v H6 v0 v1 k6 hx6 => ?_⟩
      obtain ⟨n, en⟩ : ∃ n : Nat, (n : Int) = v := ⟨v.toNat, by omega⟩
      obtain ⟨c, hc⟩ : ∃ c, (tl kn)[n]? = some c := ⟨_, List.getElem?_eq_getElem (by rw [← len_tl]; omega)⟩
      refine ⟨kn, v, c, rfl, rfl, szl, by rw [← en]; exact atI_nat hc, q (oneS c) _ (sgT_of (by show (1 : Nat) ≤ 5; decide) fun d hd => ?_) (k1.trans k6) hx6⟩
      have : d ∈ [c] := hd
      rw [List.mem_singleton.mp this]
      exact gsn_of sg (List.mem_of_getElem? hc)
/-- _law_turns -/
def sp__law_turns (K : Frg) : Sp := fun vs H Q _ => ∃ (ha la : Addr), vs = [.ref ha] ∧ HX H ha la ∧ ∀ (p : Addr) (ts : List Int) (H' : Hp), TsOk ts → SqT K H' p (ts.map V.int) → Ky [ha, la] H H' → HX H' ha la → Q (.ref p) H'
theorem sc__law_turns : FnScope ["_law_h", "_law_found", "_law_turn"] ["_law_h"] (defScope s__law_turns) := ⟨rfl, rfl, rfl, by decide +kernel, rfl, by decide +kernel, by decide +kernel⟩
theorem ok__law_turns (T : Tx w K mg) : FnOk prg w K mg base CX0 2 (ga K "_law_turns") (fdOf K (ga K "_law_turns")) ["_law_h"] (sp__law_turns K) := by
  refine T.f__law_turns.ok sc__law_turns (fun vs H Q E h => ?_) (fun cdv A outer s H vs Q E hr h => ?_)
  · obtain ⟨ha, la, rfl, _⟩ := h
    rfl
  · obtain ⟨ha, la, rfl, hx, q⟩ := h
    refine ⟨_, PSs.nox (pss_cons (ps_set (i := 1) sc__law_turns.nd rfl (Or.inl rfl) (pe_callTy call_tuple_of (by rfl) T.b_tuple boot_tuple (pa_cons (pe_lc (own := [("_law_turn", 2)]) (g := gName 2) rfl sc__law_turns.nd (pi_range1 (by rfl) T.b_range (pa_cons pe_int pa_nil)) (blkOk_by (own := [("_law_turn", 2)]) (N := ["_law_h", "_law_found", "_law_turn"]) (sc := defScope s__law_turns) (by decide +kernel)) (fun _ _ _ _ _ => pg_name (i := 2) sc__law_turns.nd rfl (Or.inl rfl)) (fun _ _ _ _ _ => pts_one (pt_cmpR op_eq (pe_call (ok__law_next T) (hr.mono (by decide)) (by rfl) T.g__law_next T.f__law_next.kp T.p__law_next .nil pass0 (pa_cons (pv 0) (pa_cons pe_int pa_nil))) pe_int (nomark _))) (fun _ _ _ _ _ => (pv 2))) pa_nil)))
      (pss_one (ps_ret (pe_ifExp (pt_cmpR (op_neD hr.units) (pv 1) (pe_tup pa_nil) (nomark _)) (pv 1) (pe_tup (pa_cons (pe_call (ok__law_next T) (hr.mono (by decide)) (by rfl) T.g__law_next T.f__law_next.kp T.p__law_next .nil pass0 (pa_cons (pv 0) (pa_cons pe_int pa_nil))) pa_nil)))))), ?_⟩
    refine ⟨_, rfl, by decide, by decide, fun D hD => ?_⟩
    have hDn := hx.fresh hD
    refine lcD (K := K) (S := [ha, la]) (g := gName 2) (walk_range (lo := 0) (n := 4)) hD (fun H' => HX H' ha la) (fun m ds => ∃ ts : List Int, ds = ts.map PyData.int ∧ (∀ t ∈ ts, 0 ≤ t ∧ t < 4) ∧ ts.length ≤ m) hDn (by omega) (fun H' l h => h.put hDn) (fun _ _ _ => trivial) hx ⟨[], rfl, (fun s hs => by cases hs), Nat.le_refl _⟩ ?_ ?_
    · rintro m x Ha Hb ds P1 P2 hm ⟨ts, rfl, a1, a2⟩ k1 hxa ⟨rfl, rfl⟩ c1 c2
      refine ⟨rfl, _, rfl, ha, la, 3, rfl, hxa, by decide, by decide, fun v H2 v0 v1 k2 hx2 => ⟨rfl, _, rfl, ?_⟩⟩
      refine ifB (fun _ => ⟨_, rfl, c1 _ (.int (0 + (m : Int))) _ k2 hx2 (.int _) (by unfold tupOnly tupD; rfl) ⟨ts ++ [0 + (m : Int)], by rw [List.map_append]; rfl, fun s hs => ?_, by rw [List.length_append]; simp; omega⟩⟩) (fun _ => c2 _ k2 hx2 ⟨ts, rfl, a1, by omega⟩)
      rcases List.mem_append.mp hs with h | h
      · exact a1 s h
      · rw [List.mem_singleton.mp h]
        omega
    · rintro H5 ds k1 hx5 nd ⟨ts, rfl, a1, a2⟩ _
      obtain ⟨xs, e1, e2, _⟩ := nd
      obtain rfl := dps_int_eq e2
      refine ⟨D, _, rfl, .inl ⟨.of e1, fun t ht => ?_⟩⟩
      refine ⟨_, rfl, Evl.sz_of (by simp), fun p hp => nil_neTI (Evl.ex_t (ex_new hp) (.of upd_same)) upd_same ⟨_, rfl, ?_⟩⟩
      have k2 : Ky [ha, la] H (upd (upd H5 t (.tup (ts.map V.int))) p (.tup [])) := (k1.trans (.new ht)).trans (.new hp)
      have hx2 := (hx5.new (o := .tup (ts.map V.int)) ht).new (o := .tup []) hp
      refine ifB (fun e => ⟨_, rfl, q t ts _ ⟨fun h => ?_, a2, a1⟩ (Evl.ex_t (ex_new hp) (.of upd_same)) k2 hx2⟩) (fun _ => ?_)
      · rw [h] at e
        cases e
      · refine ⟨_, rfl, ha, la, 4, rfl, hx2, by decide, by decide, fun v H6 v0 v1 k6 hx6 => ⟨Evl.sz_of (by simp), fun p2 hp2 => ?_⟩⟩
        exact q p2 [v] _ ⟨by simp, by simp, fun t ht => by rw [List.mem_singleton.mp ht]; exact ⟨v0, v1⟩⟩ (.of upd_same) ((k2.trans k6).trans (.new hp2)) (hx6.new hp2)
end
end Om
end PartC8
section PartC9
set_option Elab.async false
set_option linter.all false
set_option maxRecDepth 100000
set_option maxHeartbeats 400000
namespace Om
open PySem PySem.Spec PyProof.Rows L2 He TL
theorem repl_water : ∀ l : List Nat, (∀ c ∈ l, c = 126) → PySem.StrLaws.replL [126] [] l = []
  | [], _ => PySem.StrLaws.replL_nil
  | c :: l, h => by
    have e := h c (.head _)
    subst e
    rw [PySem.StrLaws.replL_hit (by simp) (by simp)]
    simpa using repl_water l fun d hd => h d (.tail _ hd)
theorem join_one : ∀ ss : List Str, (∀ s ∈ ss, ∃ c ∈ gsn, s = oneS c) → (tl (Txt.join "" ss)).length = ss.length ∧ ∀ c ∈ tl (Txt.join "" ss), c ∈ gsn := fun ss h => by
  have e0 : tl (Str.ofString "") = [] := by decide +kernel
  rw [tj, e0]
  have : ∀ l : List Str, (∀ s ∈ l, ∃ c ∈ gsn, s = oneS c) → (joinL [] (l.map tl)).length = l.length := fun l => by
    induction l with
    | nil => intro _; rfl
    | cons a r ih =>
      intro hl
      obtain ⟨c, _, e⟩ := hl a (.head _)
      have ih := ih fun s hs => hl s (.tail _ hs)
      have ea : tl a = [c] := by rw [e]; rfl
      cases r with
      | nil => rw [List.map_cons, ea]; rfl
      | cons b r =>
        rw [List.map_cons, List.map_cons, ea]
        rw [List.map_cons] at ih
        show ([c] ++ ([] ++ joinL [] (tl b :: r.map tl))).length = _
        rw [List.length_append, List.nil_append, ih]
        simp
        omega
  refine ⟨this ss h, fun c hc => ?_⟩
  rcases mem_joinL hc with h' | ⟨p, hp, hc⟩
  · cases h'
  · obtain ⟨s, hs, rfl⟩ := List.mem_map.mp hp
    obtain ⟨d, hd, rfl⟩ := h s hs
    have : c ∈ [d] := hc
    rw [List.mem_singleton.mp this]
    exact hd
theorem sum_one : ∀ l : List Str, (∀ s ∈ l, ∃ c ∈ gsn, s = oneS c) → (l.map (·.length)).sum = l.length
  | [], _ => rfl
  | a :: r, hl => by
    obtain ⟨c, _, e⟩ := hl a (.head _)
    rw [List.map_cons, List.sum_cons, sum_one r fun s hs => hl s (.tail _ hs), e]
    show 1 + r.length = r.length + 1
    omega
theorem sum_bd : ∀ l : List Str, (∀ r ∈ l, r.length ≤ 4) → (l.map (·.length)).sum ≤ 4 * l.length
  | [], _ => Nat.zero_le _
  | a :: r, hl => by
    rw [List.map_cons, List.sum_cons, List.length_cons]
    have := sum_bd r fun s hs => hl s (.tail _ hs)
    have := hl a (.head _)
    omega
theorem dp_ky {K : Frg} {S : List Addr} {H H' : Hp} {v : V} {d : PyData} (k : Ky S H H') (t : tupOnly d = true) (h : Dp K H v d) : Dp K H' v d := dp_tk k.2 t h
section
variable {w : World} {K : Frg} {mg : Str → Option Value} {base : Heap}
/-- _law_one -/
def sp__law_one (K : Frg) : Sp := fun vs H Q _ => ∃ (ha la : Addr), vs = [.ref ha] ∧ HX H ha la ∧ ∀ (p : Addr) (ds : List PyData) (H' : Hp), InsG ds → Dp K H' (.ref p) (.tuple ds) → Ky [ha, la] H H' → HX H' ha la → Q (.ref p) H'
theorem sc__law_one : FnScope ["_law_h", "_law_kind", "_law_least"] ["_law_h"] (defScope s__law_one) := ⟨rfl, rfl, rfl, by decide +kernel, rfl, by decide +kernel, by decide +kernel⟩
theorem ok__law_one (T : Tx w K mg) : FnOk prg w K mg base CX0 3 (ga K "_law_one") (fdOf K (ga K "_law_one")) ["_law_h"] (sp__law_one K) := by
  refine T.f__law_one.ok sc__law_one (fun vs H Q E h => ?_) (fun cdv A outer s H vs Q E hr h => ?_)
  · obtain ⟨ha, la, rfl, _⟩ := h
    rfl
  · obtain ⟨ha, la, rfl, hx, q⟩ := h
    refine ⟨_, PSs.nox (pss_cons (ps_par (i := 1) (j := 2) (by rfl) sc__law_one.nd rfl rfl (by decide) rfl rfl (pa_cons (pe_call (ok__law_next T) (hr.mono (by decide)) (by rfl) T.g__law_next T.f__law_next.kp T.p__law_next .nil pass0 (pa_cons (pv 0) (pa_cons pe_int pa_nil))) (pa_cons (pe_call (ok__law_next T) (hr.mono (by decide)) (by rfl) T.g__law_next T.f__law_next.kp T.p__law_next .nil pass0 (pa_cons (pv 0) (pa_cons pe_int pa_nil))) pa_nil)) (by rfl))
      (pss_cons (ps_if (pt_cmpR op_eq (pv 1) pe_int (nomark _)) (pss_one (ps_ret (pe_tup (pa_cons pe_str (pa_cons (pe_call (ok__law_turns T) (hr.mono (by decide)) (by rfl) T.g__law_turns T.f__law_turns.kp T.p__law_turns .nil pass0 (pa_cons (pv 0) pa_nil)) pa_nil))))) pss_nil)
      (pss_cons (ps_if (pt_cmpR op_lt (pv 1) pe_int (nomark _)) (pss_one (ps_ret (pe_tup (pa_cons pe_str (pa_cons (pv 2) (pa_cons (pe_op op_add (pv 2) (pe_call (ok__law_next T) (hr.mono (by decide)) (by rfl) T.g__law_next T.f__law_next.kp T.p__law_next .nil pass0 (pa_cons (pv 0) (pa_cons pe_int pa_nil)))) pa_nil)))))) pss_nil)
      (pss_cons (ps_if (pt_cmpR op_lt (pv 1) pe_int (nomark _)) (pss_one (ps_ret (pe_tup (pa_cons (pe_ix ix_list (pe_lst (pa_cons pe_str (pa_cons pe_str pa_nil))) (pe_op op_sub (pv 1) pe_int) (fun _ _ => rfl)) (pa_cons (pe_call (ok__law_signs T) (hr.mono (by decide)) (by rfl) T.g__law_signs T.f__law_signs.kp T.p__law_signs .nil pass0 (pa_cons (pv 0) (pa_cons pe_str pa_nil))) pa_nil))))) pss_nil)
      (pss_cons (ps_if (pt_cmpR op_eq (pv 1) pe_int (nomark _)) (pss_one (ps_ret (pe_tup (pa_cons pe_str (pa_cons (pe_call (ok__law_next T) (hr.mono (by decide)) (by rfl) T.g__law_next T.f__law_next.kp T.p__law_next .nil pass0 (pa_cons (pv 0) (pa_cons pe_int pa_nil))) (pa_cons (pe_call (ok__law_signs T) (hr.mono (by decide)) (by rfl) T.g__law_signs T.f__law_signs.kp T.p__law_signs .nil pass0 (pa_cons (pv 0) (pa_cons pe_str pa_nil))) pa_nil)))))) pss_nil)
      (pss_cons (ps_if (pt_cmpR op_eq (pv 1) pe_int (nomark _)) (pss_one (ps_ret (pe_tup (pa_cons pe_str (pa_cons (pe_call (ok__law_signs T) (hr.mono (by decide)) (by rfl) T.g__law_signs T.f__law_signs.kp T.p__law_signs .nil pass0 (pa_cons (pv 0) (pa_cons pe_str pa_nil))) (pa_cons (pe_call (ok__law_next T) (hr.mono (by decide)) (by rfl) T.g__law_next T.f__law_next.kp T.p__law_next .nil pass0 (pa_cons (pv 0) (pa_cons pe_int pa_nil))) pa_nil)))))) pss_nil)
      (pss_one (ps_ret (pe_tup (pa_cons pe_str (pa_cons (pe_ix ix_list (pe_lst (pa_cons pe_int (pa_cons pe_int pa_nil))) (pe_call (ok__law_next T) (hr.mono (by decide)) (by rfl) T.g__law_next T.f__law_next.kp T.p__law_next .nil pass0 (pa_cons (pv 0) (pa_cons pe_int pa_nil))) (fun _ _ => rfl)) (pa_cons (pv 2) (pa_cons (pe_op op_add (pv 2) (pe_call (ok__law_next T) (hr.mono (by decide)) (by rfl) T.g__law_next T.f__law_next.kp T.p__law_next .nil pass0 (pa_cons (pv 0) (pa_cons pe_int pa_nil)))) pa_nil))))))))))))), ?_⟩
    have sA : SgT (".ABT" : Str) := sgT_of (by decide +kernel) (by decide +kernel)
    have sW : SgT (".ABT~" : Str) := sgT_of (by decide +kernel) (by decide +kernel)
    refine ⟨_, rfl, ha, la, 8, rfl, hx, by decide, by decide, fun kd H1 k1 k2 y1 hx1 => ⟨_, rfl, ha, la, 3, rfl, hx1, by decide, by decide, fun ls H2 l1 l2 y2 hx2 => ⟨_, _, rfl, ?_⟩⟩⟩
    have y12 := y1.trans y2
    refine ⟨_, rfl, rfl, _, rfl, ?_⟩
    refine ifB (fun _ => ?_) (fun e0 => ?_)
    · refine ⟨_, rfl, ha, la, rfl, hx2, fun p ts H3 ok s k3 hx3 => ⟨Evl.sz_of (by simp), fun p2 hp2 => ?_⟩⟩
      refine q p2 _ _ (.turn ts ok.2.1 ok.2.2) (.tup (.of upd_same) (.cons (.str _) (.cons (dp_tupI (Evl.ex_t (ex_new hp2) s)) .nil))) ((y12.trans k3).trans (.new hp2)) (hx3.new hp2)
    have e0 : ¬ kd = 0 := fun h => by
      rw [h] at e0
      exact absurd e0 (by decide)
    refine ⟨_, rfl, _, _, rfl, rfl, _, rfl, ?_⟩
    refine ifB (fun _ => ?_) (fun e1 => ?_)
    · refine ⟨_, rfl, _, rfl, _, rfl, ha, la, 3, rfl, hx2, by decide, by decide, fun v H3 v1 v2 y3 hx3 => ⟨_, _, rfl, rfl, Evl.sz_of (by simp), fun p2 hp2 => ?_⟩⟩
      refine q p2 _ _ (.walk ls (ls + v) l1 (by omega) (by omega) (by omega)) (.tup (.of upd_same) (.cons (.str _) (.cons (.int _) (.cons (.int _) .nil)))) ((y12.trans y3).trans (.new hp2)) (hx3.new hp2)
    have e1 := of_decide_eq_false e1
    refine ⟨_, rfl, _, _, rfl, rfl, _, rfl, ?_⟩
    refine ifB (fun e2 => ?_) (fun e2 => ?_)
    · have e2 := of_decide_eq_true e2
      refine ⟨Evl.sz_of (by simp), fun p3 hp3 => ?_⟩
      have hk : kd = 3 ∨ kd = 4 := by omega
      obtain ⟨h, hh, hi⟩ : ∃ h : Str, (h = "until" ∨ h = "toward") ∧ atI [V.str "until", V.str "toward"] (kd - 3) = some (.str h) := by
        rcases hk with rfl | rfl
        · exact ⟨_, .inl rfl, rfl⟩
        · exact ⟨_, .inr rfl, rfl⟩
      refine ⟨_, rfl, _, _, rfl, rfl, p3, _, _, .str h, rfl, rfl, .of upd_same, hi, _, rfl, ha, la, (".ABT" : Str), rfl, hx2.new hp3, sA, by decide +kernel, fun z H4 sz y4 hx4 => ⟨Evl.sz_of (by simp), fun p5 hp5 => ?_⟩⟩
      refine q p5 [.str h, .str z] _ ?_ (.tup (.of upd_same) (.cons (.str _) (.cons (.str _) .nil))) (((y12.trans (.new hp3)).trans y4).trans (.new hp5)) (hx4.new hp5)
      rcases hh with rfl | rfl
      · exact .untl z sz
      · exact .towd z sz
    refine ⟨_, rfl, rfl, _, rfl, ?_⟩
    refine ifB (fun _ => ?_) (fun e3 => ?_)
    · refine ⟨_, rfl, ha, la, 4, rfl, hx2, by decide, by decide, fun v H3 v1 v2 y3 hx3 => ⟨_, rfl, ha, la, (".ABT~" : Str), rfl, hx3, sW, by decide +kernel, fun z H4 sz y4 hx4 => ⟨Evl.sz_of (by simp), fun p5 hp5 => ?_⟩⟩⟩
      exact q p5 _ _ (.besd v z v1 v2 sz) (.tup (.of upd_same) (.cons (.str _) (.cons (.int _) (.cons (.str _) .nil)))) (((y12.trans y3).trans y4).trans (.new hp5)) (hx4.new hp5)
    refine ⟨_, rfl, rfl, _, rfl, ?_⟩
    refine ifB (fun _ => ?_) (fun e4 => ?_)
    · refine ⟨_, rfl, ha, la, (".ABT~" : Str), rfl, hx2, sW, by decide +kernel, fun z H4 sz y4 hx4 => ⟨_, rfl, ha, la, 4, rfl, hx4, by decide, by decide, fun v H3 v1 v2 y3 hx3 => ⟨Evl.sz_of (by simp), fun p5 hp5 => ?_⟩⟩⟩
      exact q p5 _ _ (.near z v sz v1 v2) (.tup (.of upd_same) (.cons (.str _) (.cons (.str _) (.cons (.int _) .nil)))) (((y12.trans y4).trans y3).trans (.new hp5)) (hx3.new hp5)
    · refine ⟨Evl.sz_of (by simp), fun p3 hp3 => ⟨_, rfl, ha, la, 2, rfl, hx2.new hp3, by decide, by decide, fun v H3 v1 v2 y3 hx3 => ?_⟩⟩
      have hp3' : H3 p3 = some (.lst [V.int 1, V.int 3]) := y3.1 p3 _ (hx2.fresh hp3) upd_same
      obtain ⟨sd, g1, g2, hi⟩ : ∃ sd : Int, 0 ≤ sd ∧ sd ≤ 3 ∧ atI [V.int 1, V.int 3] v = some (.int sd) := by
        have hv : v = 0 ∨ v = 1 := by omega
        rcases hv with rfl | rfl
        · exact ⟨1, by decide, by decide, rfl⟩
        · exact ⟨3, by decide, by decide, rfl⟩
      refine ⟨p3, _, _, .int sd, rfl, rfl, .of hp3', hi, _, rfl, _, rfl, _, rfl, ha, la, 3, rfl, hx3, by decide, by decide, fun u H4 u1 u2 y4 hx4 => ⟨_, _, rfl, rfl, Evl.sz_of (by simp), fun p5 hp5 => ?_⟩⟩
      exact q p5 _ _ (.shor sd ls (ls + u) g1 g2 l1 (by omega) (by omega) (by omega)) (.tup (.of upd_same) (.cons (.str _) (.cons (.int _) (.cons (.int _) (.cons (.int _) .nil))))) ((((y12.trans (.new hp3)).trans y3).trans y4).trans (.new hp5)) (hx4.new hp5)
/-- _law_rows -/
def sp__law_rows (K : Frg) : Sp := fun vs H Q _ => ∃ (ha la : Addr), vs = [.ref ha, .int 4] ∧ HX H ha la ∧ ∀ (p : Addr) (rows : List Str) (wd : Nat) (H' : Hp), RowsOk rows wd → (∃ r ∈ rows, ∃ c ∈ tl r, c ≠ 126) → SqT K H' p (rows.map V.str) → Ky [ha, la] H H' → HX H' ha la → Q (.ref p) H'
theorem sc__law_rows : FnScope ["_law_h", "_law_most", "_law_high", "_law_wide", "_law_found", "_law_row", "_law_column"] ["_law_h", "_law_most"] (defScope s__law_rows) := ⟨rfl, rfl, rfl, by decide +kernel, rfl, by decide +kernel, by decide +kernel⟩
theorem ok__law_rows (T : Tx w K mg) : FnOk prg w K mg base CX0 2 (ga K "_law_rows") (fdOf K (ga K "_law_rows")) ["_law_h", "_law_most"] (sp__law_rows K) := by
  refine T.f__law_rows.ok sc__law_rows (fun vs H Q E h => ?_) (fun cdv A outer s H vs Q E hr h => ?_)
  · obtain ⟨ha, la, rfl, _⟩ := h
    rfl
  · obtain ⟨ha, la, rfl, hx, q⟩ := h
    refine ⟨_, PSs.nox (pss_cons (ps_par (i := 2) (j := 3) (by rfl) sc__law_rows.nd rfl rfl (by decide) rfl rfl (pa_cons (pe_op op_add pe_int (pe_call (ok__law_next T) (hr.mono (by decide)) (by rfl) T.g__law_next T.f__law_next.kp T.p__law_next .nil pass0 (pa_cons (pv 0) (pa_cons (pv 1) pa_nil)))) (pa_cons (pe_op op_add pe_int (pe_call (ok__law_next T) (hr.mono (by decide)) (by rfl) T.g__law_next T.f__law_next.kp T.p__law_next .nil pass0 (pa_cons (pv 0) (pa_cons (pv 1) pa_nil)))) pa_nil)) (by rfl))
      (pss_cons (ps_set (i := 4) sc__law_rows.nd rfl (Or.inl rfl) (pe_lst pa_nil))
      (pss_cons (ps_for PassesOwn.never rfl (pi_range1 (by rfl) T.b_range (pa_cons (pv 2) pa_nil)) (pg_name (i := 5) sc__law_rows.nd rfl (Or.inl rfl)) (pss_one (ps_expr (pe_bm PySem.F.plainAttrs_list PySem.F.slot_list_append PySem.F.type_list_append mt_append (pv 4) (pa_cons (pe_bm PySem.F.plainAttrs_str PySem.F.slot_str_join PySem.F.type_str_join mt_join pe_str (pa_cons (pe_lc (own := [("_law_column", 6)]) (g := gName 6) rfl sc__law_rows.nd (pi_range1 (by rfl) T.b_range (pa_cons (pv 3) pa_nil)) (blkOk_by (own := [("_law_column", 6)]) (N := ["_law_h", "_law_most", "_law_high", "_law_wide", "_law_found", "_law_row", "_law_column"]) (sc := defScope s__law_rows) (by decide +kernel)) (fun _ _ _ _ _ => pg_name (i := 6) sc__law_rows.nd rfl (Or.inl rfl)) (fun _ _ _ _ _ => pts_nil) (fun _ _ _ _ _ => (pe_ix (kIx (K := K) (r := rIxL) rfl ix_list) (pe_lst (pa_cons pe_str (pa_cons pe_str (pa_cons pe_str (pa_cons pe_str (pa_cons pe_str (pa_cons pe_str (pa_cons pe_str (pa_cons pe_str pa_nil))))))))) (pe_call (ok__law_next T) (hr.mono (by decide)) (by rfl) T.g__law_next T.f__law_next.kp T.p__law_next .nil pass0 (pa_cons (pv 0) (pa_cons pe_int pa_nil))) (fun _ _ => rfl)))) pa_nil)) pa_nil)))))
      (pss_one (ps_ret (pe_ifExp (pt_cmpR op_ne (pe_joinRepl (pv 4)) pe_str (nomark _)) (pe_callTy call_tuple_of (by rfl) T.b_tuple boot_tuple (pa_cons (pv 4) pa_nil)) (pe_op op_catA (pe_tup (pa_cons (pe_op op_repS pe_str (pv 3)) pa_nil)) (pe_callTy call_tuple_of (by rfl) T.b_tuple boot_tuple (pa_cons (pe_slice sl_list (pv 4) (po_some pe_int) po_none) pa_nil))))))))), ?_⟩
    refine ⟨_, rfl, _, rfl, ha, la, 4, rfl, hx, by decide, by decide, fun hv H1 h1 h2 k1 hx1 => ⟨_, _, rfl, rfl, _, rfl, _, rfl, ha, la, 4, rfl, hx1, by decide, by decide, fun wv H2 w1 w2 k2 hx2 => ⟨_, _, rfl, rfl, _, _, rfl, ?_⟩⟩⟩
    refine ⟨Evl.sz_of (by simp), fun pf hpf => ?_⟩
    have k3 : Ky [ha, la] H (upd H2 pf (.lst [])) := (k1.trans k2).trans (.new hpf)
    have hx3 := hx2.new (o := .lst []) hpf
    have pfn := hx2.fresh hpf
    have pfH : H pf = none := (k1.trans k2).fresh hpf pfn
    have hpf3 : upd H2 pf (.lst []) pf = some (.lst (([] : List Str).map V.str)) := upd_same
    generalize upd H2 pf (.lst []) = H3 at k3 hx3 hpf3 ⊢
    obtain ⟨hN, ehN⟩ : ∃ n : Nat, (n : Int) = 1 + hv := ⟨(1 + hv).toNat, by omega⟩
    obtain ⟨wN, ewN⟩ : ∃ n : Nat, (n : Int) = 1 + wv := ⟨(1 + wv).toNat, by omega⟩
    dsimp only
    rw [← ehN, ← ewN]
    refine ⟨_, rfl, _, rfl, by omega, by omega, ?_⟩
    have hnn : (hN : Int).toNat = hN := by omega
    rw [hnn]
    refine for_range (fun n σ H' => ∃ (rows : List Str) (o5 : Option V), σ = [some (.ref ha), some (.int 4), some (.int (hN : Int)), some (.int (wN : Int)), some (.ref pf), o5, none] ∧ H' pf = some (.lst (rows.map V.str)) ∧ rows.length = n ∧ (∀ r ∈ rows, (tl r).length = wN ∧ ∀ c ∈ tl r, c ∈ gsn) ∧ Ky [ha, la] H H' ∧ HX H' ha la)
      ⟨[], none, rfl, hpf3, rfl, (fun r hr => by cases hr), k3, hx3⟩ ?_ ?_
    · rintro n σ H4 hn ⟨rows, o5, rfl, hp4, hlen, hrows, k4, hx4⟩
      refine ⟨_, rfl, .inl ⟨rfl, _, .of hp4⟩, rfl, _, rfl, _, rfl, by omega, by omega, fun D hD => ?_⟩
      have hDn := hx4.fresh hD
      have hwn : (wN : Int).toNat = wN := by omega
      refine lcD (K := K) (S := [ha, la]) (g := gName 6) (walk_range (lo := 0) (n := (wN : Int).toNat)) hD (fun H' => HX H' ha la) (fun m ds => ∃ ss : List Str, ds = ss.map PyData.str ∧ (∀ s ∈ ss, ∃ c ∈ gsn, s = oneS c) ∧ ss.length = m) hDn (by omega) (fun H' l h => h.put hDn) (fun _ _ _ => trivial) hx4 ⟨[], rfl, (fun s hs => by cases hs), rfl⟩ ?_ ?_
      · rintro m x Ha Hb ds P1 P2 hm ⟨ss, rfl, a1, a2⟩ y1 hxa ⟨rfl, rfl⟩ c1 c2
        refine ⟨rfl, tY ⟨Evl.sz_of (by simp), fun p hp => ⟨_, rfl, ha, la, 8, rfl, hxa.new hp, by decide, by decide, fun v G4 v0 v1 y4 hy4 => ?_⟩⟩⟩
        have hp' := y4.1 p _ (hxa.fresh hp) (upd_same (o := .lst [V.str ".", V.str ".", V.str ".", V.str "~", V.str ".", V.str "A", V.str "B", V.str "T"]))
        obtain ⟨c, hc, hi⟩ : ∃ c, c ∈ gsn ∧ atI [V.str ".", V.str ".", V.str ".", V.str "~", V.str ".", V.str "A", V.str "B", V.str "T"] v = some (.str (oneS c)) := by
          have hv : v = 0 ∨ v = 1 ∨ v = 2 ∨ v = 3 ∨ v = 4 ∨ v = 5 ∨ v = 6 ∨ v = 7 := by omega
          rcases hv with rfl | rfl | rfl | rfl | rfl | rfl | rfl | rfl
          · exact ⟨46, by decide, rfl⟩
          · exact ⟨46, by decide, rfl⟩
          · exact ⟨46, by decide, rfl⟩
          · exact ⟨126, by decide, rfl⟩
          · exact ⟨46, by decide, rfl⟩
          · exact ⟨65, by decide, rfl⟩
          · exact ⟨66, by decide, rfl⟩
          · exact ⟨84, by decide, rfl⟩
        refine ⟨p, _, _, .str (oneS c), rfl, rfl, .of hp', hi, c1 _ (.str (oneS c)) _ ((Ky.new hp).trans y4) hy4 (.str _) (by unfold tupOnly tupD; exact one_ok hc) ⟨ss ++ [oneS c], by rw [List.map_append]; rfl, fun s hs => ?_, by rw [List.length_append, a2]; rfl⟩⟩
        rcases List.mem_append.mp hs with h | h
        · exact a1 s h
        · exact ⟨c, hc, List.mem_singleton.mp h⟩
      · rintro H5 ds y1 hx5 nd ⟨ss, rfl, a1, a2⟩ _
        obtain ⟨xs, e1, e2, _⟩ := nd
        obtain rfl := dps_str_eq e2
        have l0 : (Str.ofString "").length = 0 := by decide +kernel
        obtain ⟨j1, j2⟩ := join_one ss a1
        refine ⟨_, D, ss, rfl, rfl, .inl (.of e1), by rw [sum_one ss a1, l0]; omega, ?_⟩
        have hp5 := y1.1 pf _ pfn hp4
        refine ⟨pf, _, .str (Txt.join "" ss), rfl, rfl, hp5, Evl.sz_lt (by rw [List.length_map]; omega), rows ++ [Txt.join "" ss], _, rfl, by rw [List.map_append]; exact upd_same, by rw [List.length_append, hlen]; rfl, fun r hr => ?_, (k4.trans y1).mut pfH, hx5.put pfn⟩
        rcases List.mem_append.mp hr with h | h
        · exact hrows r h
        · rw [List.mem_singleton.mp h]
          exact ⟨by rw [j1, a2]; omega, j2⟩
    · rintro σ H4 ⟨rows, o5, rfl, hp4, hlen, hrows, k4, hx4⟩
      have rl4 : rows.length ≤ 4 := by omega
      have bl : ∀ r ∈ rows, r.length ≤ 4 := fun r hr => by rw [len_tl, (hrows r hr).1]; omega
      have sb := sum_bd rows bl
      have l0 : (Str.ofString "").length = 0 := by decide +kernel
      have e0 : tl (Str.ofString "") = [] := by decide +kernel
      have jl : (Txt.join "" rows).length ≤ 16 := by
        have := len_joinL (S := []) (rows.map tl)
        rw [List.length_nil, Nat.mul_zero, Nat.add_zero] at this
        rw [len_tl, tj, e0]
        refine Nat.le_trans this ?_
        have : (rows.map tl).map (·.length) = rows.map (·.length) := by
          rw [List.map_map]
          exact List.map_congr_left fun r _ => (len_tl r).symm
        rw [this]
        omega
      refine ⟨_, rfl, pf, rows, rfl, .inl (.of hp4), by rw [l0]; omega, by rw [l0]; omega, rfl, _, rfl, ?_⟩
      refine ifB (fun e => ?_) (fun _ => ?_)
      · refine ⟨_, rfl, pf, _, rfl, .inl ⟨.of hp4, fun t ht => q t rows wN _ ⟨⟨by omega, rl4⟩, ⟨by omega, by omega⟩, fun r hr => (hrows r hr).1, fun r hr => (hrows r hr).2⟩ ?_ (.of upd_same) (k4.trans (.new ht)) (hx4.new ht)⟩⟩
        refine Classical.byContradiction fun hno => ?_
        have all126 : ∀ c ∈ tl (Txt.join "" rows), c = 126 := fun c hc => by
          rw [tj, e0] at hc
          rcases mem_joinL hc with h | ⟨p, hp, hc⟩
          · cases h
          · obtain ⟨r, hr, rfl⟩ := List.mem_map.mp hp
            exact Classical.byContradiction fun h => hno ⟨r, hr, c, hc, h⟩
        have er : Txt.replace (Txt.join "" rows) "~" "" = "" := by
          refine ext_tl ?_
          have := PySem.StrLaws.replace_list (x := Txt.join "" rows) (y := "~") (z := "") (by decide +kernel)
          have e1 : tl (Str.ofString "~") = [126] := by decide +kernel
          have h2 := repl_water _ all126
          show tl _ = tl _
          rw [e0]
          refine Eq.trans this ?_
          show PySem.StrLaws.replL (tl (Str.ofString "~")) (tl (Str.ofString "")) (tl (Txt.join "" rows)) = []
          rw [e1, e0]
          exact h2
        rw [er] at e
        exact absurd e (by decide +kernel)
      · obtain ⟨d0, ed, hd0⟩ : ∃ d0 : Str, Txt.mul (Str.ofString ".") (wN : Int) = d0 ∧ (tl d0).length = wN ∧ (∀ c ∈ tl d0, c = 46) := by
          have hw : wN = 1 ∨ wN = 2 ∨ wN = 3 ∨ wN = 4 := by omega
          rcases hw with rfl | rfl | rfl | rfl <;> exact ⟨_, rfl, by decide +kernel, by decide +kernel⟩
        have mo : MulOk (Str.ofString ".") (wN : Int) := by
          have hw : wN = 1 ∨ wN = 2 ∨ wN = 3 ∨ wN = 4 := by omega
          rcases hw with rfl | rfl | rfl | rfl <;> exact ⟨by decide, by decide +kernel, by decide +kernel⟩
        refine ⟨_, rfl, _, _, rfl, rfl, mo, Evl.sz_of (by simp), fun p hp => ⟨_, rfl, _, rfl, ?_⟩⟩
        unfold tNoPart
        refine ⟨pf, _, rfl, .of (ex_new hp _ _ hp4), fun sl hsl => ⟨sl, _, rfl, .inl ⟨.of upd_same, fun t ht => ?_⟩⟩⟩
        have ecut : cutV (rows.map V.str) (some 1) none = (rows.drop 1).map V.str := (cutV_from _ 1).trans (by rw [List.map_drop])
        rw [ecut] at ht ⊢
        rw [ed] at hsl ht ⊢
        have xx := (ex_new (o := .lst ((rows.drop 1).map V.str)) hsl).trans (ex_new (o := .tup ((rows.drop 1).map V.str)) ht)
        have s0 : SqT K (upd H4 p (.tup [V.str d0])) p [V.str d0] := .of upd_same
        refine catA (K := K) (Evl.ex_t xx s0) (.of upd_same) (by rw [List.length_map, List.length_drop]; simp; omega) fun p7 H7 x7 s7 => ?_
        have kk := ((((k4.trans (.new hp)).trans (.new hsl)).trans (.new ht)).trans (.of x7))
        refine q p7 (d0 :: rows.drop 1) wN H7 ⟨⟨by simp, by simp; omega⟩, ⟨by omega, by omega⟩, fun r hr => ?_, fun r hr => ?_⟩ ⟨d0, .head _, ?_⟩ s7 kk ((((hx4.new hp).new hsl).new ht).ex x7)
        · rcases List.mem_cons.mp hr with h | h
          · rw [h]
            exact hd0.1
          · exact (hrows r (List.mem_of_mem_drop h)).1
        · rcases List.mem_cons.mp hr with h | h
          · rw [h]
            intro c hc
            rw [hd0.2 c hc]
            decide
          · exact (hrows r (List.mem_of_mem_drop h)).2
        · obtain ⟨c, r, hcr⟩ : ∃ c r, tl d0 = c :: r := by
            cases h : tl d0 with
            | nil =>
              have := hd0.1
              rw [h] at this
              simp at this
              omega
            | cons c r => exact ⟨c, r, rfl⟩
          have hm : c ∈ tl d0 := by rw [hcr]; exact .head _
          exact ⟨c, hm, by rw [hd0.2 c hm]; decide⟩
end
end Om
end PartC9
section PartRu11
set_option Elab.async false
set_option linter.all false
set_option maxRecDepth 100000
namespace Om
open PySem PySem.Spec PyProof.Rows L2
section
variable {P : Program} {w : World} {A : Around} {E : Value → Shared → Prop} {s : Shared} {a : Addr}
/-- at a stands a set of texts, each of them C, n at most -/
def ZetR (w : World) (h : Heap) (a : Addr) (C : Str → Prop) (n : Nat) : Prop := ∃ (ob : Obj) (es : Array (Int × Value)) (ep : Nat) (tb : SetTable), h.get? a = some ob ∧ ob.ExactSet ∧ ob.data = .set es ep tb ∧
  (∀ e ∈ es.toList, ∃ k u, e = (hashStr w k, Value.str k u) ∧ C k) ∧ es.size ≤ n ∧ tb.fits es.size = true ∧ Ris tb.place.toList ∧ (w.params.followText "set-order" = true ∨ tb.led = true)
theorem ZetR.keep {h h' : Heap} {C : Str → Prop} {n : Nat} (R : ZetR w h a C n) (k : ∀ o, h.get? a = some o → h'.get? a = some o) : ZetR w h' a C n := by
  obtain ⟨ob, es, ep, tb, ho, r⟩ := R
  exact ⟨ob, es, ep, tb, k ob ho, r⟩
theorem zet_elems {C : Str → Prop} {l : List (Int × Value)} (g : ∀ e ∈ l, ∃ k u, e = (hashStr w k, Value.str k u) ∧ C k) : ElemsOf (PySem.strKind P w) l := fun e he => by
  obtain ⟨k, u, rfl, _⟩ := g e he
  exact ⟨⟨k, strKind_is _ _ _ _, rfl⟩, rfl⟩
theorem zet_lay {C : Str → Prop} {n : Nat} {g : Bool → Sem Unit} (hg : ∀ (b : Bool) (s₁ : Shared) (Q' : Unit → Shared → Prop), Q' () s₁ → wpAny (model P w) A (g b) Q' E s₁)
    {ob : Obj} {es : Array (Int × Value)} {ep : Nat} {tb : SetTable} (ho : s.heap.get? a = some ob) (hex : ob.ExactSet) (hd : ob.data = .set es ep tb)
    {es1 : Array (Int × Value)} {t2 : SetTable} (g1 : ∀ e ∈ es1.toList, ∃ k u, e = (hashStr w k, Value.str k u) ∧ C k) (b1 : es1.size ≤ n) (hb : es1.size < scanBound) (f2 : t2.fits es1.size = true) (hr : Ris t2.place.toList)
    (hl : w.params.followText "set-order" = true ∨ t2.led = true) {wd : Bool} {R : Option Bool → Shared → Prop} (hR : ∀ h', Heap.SameBut a s.heap h' → ZetR w h' a C n → R (some true) { s with heap := h' }) :
    wpAny (model P w) A (do
        storeSet a es1 t2
        if (!wd && t2.tooFull) = true then do
            g (relayAll t2 es1 (SetTable.grown es1.size)).2.2
            storeSet a (relayAll t2 es1 (SetTable.grown es1.size)).1 (relayAll t2 es1 (SetTable.grown es1.size)).2.1
            pure (some true)
          else pure (some true)) R E s := by
  refine wpAny_bind (wpAny_storeSet_of ho hd ?_ (fits_of_scanBound hb))
  have o1 := store_at (es' := es1) (t' := t2) ho hd
  have sb := Heap.SameBut.update s.heap a (Obj.putSet es1 t2)
  split
  · have q1 := relayAll_perm t2 es1 (SetTable.grown es1.size)
    have q2 := relayAll_fits t2 es1 (SetTable.grown es1.size)
    have q3 := relayAll_ris t2 es1 (SetTable.grown es1.size)
    have q4 := relayAll_led t2 es1 (SetTable.grown es1.size)
    generalize relayAll t2 es1 (SetTable.grown es1.size) = Y at q1 q2 q3 q4 ⊢
    obtain ⟨es2, t3, gv⟩ := Y
    dsimp only at q1 q2 q3 q4 ⊢
    have z2 : es2.size = es1.size := by
      have := q1.length_eq
      rw [Array.length_toList, Array.length_toList] at this
      exact this
    refine wpAny_bind (hg _ _ _ ?_)
    refine wpAny_bind (wpAny_storeSet_of o1 rfl ?_ (fits_of_scanBound (by rw [z2]; exact hb)))
    have o2 := store_at (es' := es2) (t' := t3) o1 rfl
    refine wpAny_pure (hR _ (sb.trans (Heap.SameBut.update _ a _)) ?_)
    exact ⟨_, es2, _, t3, o2, hex, rfl, fun e he => g1 e (q1.mem_iff.mp he), by rw [z2]; exact b1, q2, q3, hl.imp _root_.id fun z => by rw [q4]; exact z⟩
  · exact wpAny_pure (hR _ sb ⟨_, es1, _, t2, o1, hex, rfl, g1, b1, f2, hr, hl⟩)
theorem zet_add {C : Str → Prop} {n : Nat} {k : Str} {u : Tok} {Q : Bool → Shared → Prop} (R : ZetR w s.heap a C n) (hk : C k) (room : n + 1 < scanBound)
    (hQ : ∀ b h', Heap.SameBut a s.heap h' → ZetR w h' a C (n + 1) → Q b { s with heap := h' }) : wpAny (model P w) A (setAddHashed a (.str k u) ((PySem.strKind P w).hash k)) Q E s := by
  obtain ⟨ob, es, ep, tb, ho, hex, hd, g, hn, hf, hr, hl⟩ := R
  have hkey : (PySem.strKind P w).is k (.str k u) = true := strKind_is _ _ _ _
  have hel : ElemsOf (PySem.strKind P w) es.toList := zet_elems g
  have hb : es.size < scanBound := by omega
  unfold setAddHashed setAddHashedIn
  refine wpAny_holding (wpAny_bind (wpAny_setState_of ho hd hf ?_))
  dsimp only
  rw [byScan_of rfl hb hel]
  simp only [↓reduceIte]
  unfold setAddByScan
  refine wpAny_bind ?_
  refine wpAny_bind (wpAny_rule ?_)
  refine wpAny_bind (wpAny_setScan_of hkey ho hd hf hel ?_)
  cases hfi : List.findIdx? (fun e => (PySem.strKind P w).is k e.2) es.toList with
  | some j =>
    dsimp only
    exact wpAny_pure (wpAny_pure (hQ _ s.heap (Heap.SameBut.refl a s.heap) ⟨ob, es, ep, tb, ho, hex, hd, g, Nat.le_succ_of_le hn, hf, hr, hl⟩))
  | none =>
    dsimp only
    have hgw : ∀ (b : Bool) {s₁ : Shared} {Q' : Unit → Shared → Prop}, Q' () s₁ → wpAny (model P w) A (match b with | true => rule "set.scan.the-table-gave-way" | false => pure ()) Q' E s₁ :=
      fun b s₁ Q' q => by cases b <;> first | exact wpAny_pure q | exact wpAny_rule q
    have pm := layNew_perm tb es ((PySem.strKind P w).hash k) (.str k u)
    have f1 := layNew_fits tb es ((PySem.strKind P w).hash k) (.str k u)
    have r1 := layNew_ris tb es ((PySem.strKind P w).hash k) (.str k u) hr
    have l1 := layNew_led tb es ((PySem.strKind P w).hash k) (.str k u)
    generalize layNew tb es ((PySem.strKind P w).hash k) (.str k u) = Y at pm f1 r1 l1 ⊢
    obtain ⟨es1, t1, wd, gv⟩ := Y
    dsimp only at pm f1 r1 l1 ⊢
    rw [Array.toList_push] at pm
    have g1 : ∀ e ∈ es1.toList, ∃ k u, e = (hashStr w k, Value.str k u) ∧ C k := fun e he => by
      rcases List.mem_append.mp (pm.mem_iff.mp he) with z | z
      · exact g e z
      · rw [List.mem_singleton.mp z]
        exact ⟨k, u, rfl, hk⟩
    have sz1 : es1.size = es.size + 1 := by
      have := pm.length_eq
      rw [Array.length_toList, List.length_append, Array.length_toList] at this
      simpa using this
    have b1 : es1.size ≤ n + 1 := by omega
    have hb1 : es1.size < scanBound := by omega
    have led : w.params.followText "set-order" = true ∨ t1.led = true := hl.imp _root_.id fun z => by rw [l1]; exact z
    refine wpAny_bind (hgw _ ?_)
    split
    · refine wpAny_bind ?_
      rw [hashByValue_scannable 8 rfl]
      refine wpAny_pure ?_
      refine zet_lay (C := C) (n := n + 1) ?_ ho hex hd g1 b1 hb1 ?_ ?_ ?_ ?_
      · intro b s₁ Q' q; cases b <;> first | exact wpAny_pure q | exact wpAny_rule q
      · first | (split <;> first | exact f1 | exact SetTable.fits_plain_off f1) | exact f1
      · first | (split <;> exact r1) | exact r1
      · first | (split <;> exact led) | exact led
      · intro h' sb r; dsimp only; exact wpAny_pure (hQ _ h' sb r)
    · refine wpAny_bind (wpAny_pure ?_)
      simp only [↓reduceIte]
      refine zet_lay (C := C) (n := n + 1) ?_ ho hex hd g1 b1 hb1 f1 r1 led ?_
      · intro b s₁ Q' q; cases b <;> first | exact wpAny_pure q | exact wpAny_rule q
      · intro h' sb r; dsimp only; exact wpAny_pure (hQ _ h' sb r)
/-- set.update's walk over a text -/
theorem zet_walk {I : Addr} {fp wr : List Addr} {G : Array GenState → Array GenState → Prop} {n : Nat} {Pv : Nat → Value → Prop} {St : Nat → Shared → Prop} {R : Result → Shared → Prop} {C : Str → Prop}
    (W : WalksS P w A.in1 I fp wr G n Pv St) (S : Addr) (ns : S ∉ fp) (hz : n ≤ 60) (val : ∀ i v, Pv i v → ∃ k u, v = .str k u ∧ C k) :
    ∀ (f i : Nat) (s : Shared), n - i = f → i ≤ n → St i s → ZetR w s.heap S C i → (∀ s', Moved (S :: wr) G s s' → ZetR w s'.heap S C n → R (.ok (.ret .none)) s') → codeAny (model P w) A (.builtin "set.update.loop" ⟨[.ref S, .ref I], []⟩) R s := by
  have nw : S ∉ wr := fun h => ns (W.sub _ h)
  have inc : ∀ b ∈ wr, b ∈ S :: wr := fun b hb => .tail _ hb
  intro f
  induction f with
  | zero =>
    intro i s hf hi hst T hR
    obtain rfl : i = n := by omega
    refine codeAny_builtin F.entry_set_update_loop ?_
    rw [Around.under_plainId F.plain_set_update_loop _]
    show wpAny _ A.in1 (pyNext (.ref I) >>= _) _ _ s
    refine wpAny_bind (W.done s _ _ hst fun s' m => ?_)
    show wpAny _ A.in1 (ret Value.none) _ _ s'
    exact wpAny_pure (hR s' (m.mono inc) (T.keep fun o e => m.heap S o nw e))
  | succ f ih =>
    intro i s hf hi hst T hR
    have lt : i < n := by omega
    refine codeAny_builtin F.entry_set_update_loop ?_
    rw [Around.under_plainId F.plain_set_update_loop _]
    show wpAny _ A.in1 (pyNext (.ref I) >>= _) _ _ s
    refine wpAny_bind (W.item i s _ _ lt hst fun v s' pv hst' m => ?_)
    obtain ⟨k, u, rfl, hk⟩ := val i v pv
    have T' : ZetR w s'.heap S C i := T.keep fun o e => m.heap S o nw e
    show wpAny _ A.in1 (holding [Value.str k u] (setAdd S (.str k u)) >>= _) _ _ s'
    refine wpAny_bind (wpAny_holding ?_)
    unfold setAdd
    refine wpAny_holding ?_
    refine wpAny_bind ((PySem.strKind P w).pyHash (k := k) (strKind_is _ _ _ _) ?_)
    refine zet_add (s := { s' with toks := s'.toks + 1 }) T' hk (by unfold scanBound; omega) fun b h' sb T2 => ?_
    refine wpAny_pure ⟨plainId_quiet F.plain_set_update_loop _, ih (i + 1) _ (by omega) lt (W.frame _ s' _ _ hst' (Nat.le_succ _) fun b hb o e => ?_) T2 fun s2 m2 T3 => ?_⟩
    · rw [sb.2 b (fun z : b = S => ns (by rw [← z]; exact hb))]
      exact e
    · refine hR s2 (Moved.trans W.gtrans ((m.mono inc).then_heap (Nat.le_succ _) fun b o hb e => ?_) m2) T3
      rw [sb.2 b (fun z : b = S => hb (by rw [z]; exact .head _))]
      exact e
theorem moved_keeps {S : Addr} {wr : List Addr} {G : Array GenState → Array GenState → Prop} {s s' : Shared} (m : Moved (S :: wr) G s s') {h0 : Heap} (no : ∀ b ∈ S :: wr, h0.get? b = none) (k : ∀ b o, h0.get? b = some o → s.heap.get? b = some o) : ∀ b o, h0.get? b = some o → s'.heap.get? b = some o := fun b o e =>
  m.heap b o (fun hb => by rw [no b hb] at e; cases e) (k b o e)
set_option maxHeartbeats 3200000 in
/-- set(a text of ASCII signs) -/
theorem zet_set {x : Str} {t : Tok} {C : Str → Prop} {Q : Value → Shared → Prop} (hh : A.handled = none) (asc : x.cps.all (· < 128) = true) (hz : x.cps.size ≤ 60) (hC : ∀ i v, SignAt x i v → ∃ k u, v = .str k u ∧ C k)
    (fin : ∀ (h' : Heap) (tk : Nat), ZetR w h' s.heap.objs.size C x.cps.size → (∀ b o, s.heap.get? b = some o → h'.get? b = some o) → Q (.ref s.heap.objs.size) { s with heap := h', toks := tk }) :
    wpAny (model P w) A (call (.type "set") [.str x t]) Q E s := by
  obtain ⟨c, tl, hmro⟩ := F.called_set.mro
  have hmade := F.called_set.made
  have hsub := F.called_set.sub
  refine wpAny_call (codeAny_of_tree ?_)
  show wpAny _ _ (callAny (.type "set") _) _ _ _
  refine wpAny_pure ⟨Code.quiet_builtin _ (by decide +kernel), codeAny_builtin F.entry_type_call ?_⟩
  rw [Around.under_plain (weight_type_call_type "set" [.str x t] []) rfl]
  have h1 := F.called_set.notType
  have h2 := F.called_set.canCreate
  have hct := F.typeCall_set_1 (.str x t)
  repeat (any_goals (first | assumption | wp_step))
  refine codeAny_mono (code_set_led1 (.str x t) (E := E) (Q₁ := fun v s₁ => v = .ref s.heap.objs.size ∧ s₁ = { s with heap := s.heap.push (setZ w) }) ⟨rfl, rfl⟩) fun r s₁ hr => ?_
  cases r with
  | error e => exact hr
  | ok fl =>
    cases fl with
    | ret v =>
      obtain ⟨rfl, rfl⟩ := hr
      have atS : (s.heap.push (setZ w)).get? s.heap.objs.size = some (setZ w) := Heap.get?_push_size _ rfl
      have isS : Shared.TypeIs { s with heap := s.heap.push (setZ w) } (.ref s.heap.objs.size) "set" := ⟨_, atS, rfl⟩
      have hli := F.called_set.init.lookup
      have hbi := F.called_set.init.bind (.ref s.heap.objs.size)
      repeat (any_goals (first | assumption | wp_step))
      refine codeAny_mono (codeAny_call_builtin (R := wants (fun r s₂ => r = .none ∧ ∃ h' tk, s₂ = { s with heap := h', toks := tk } ∧ ZetR w h' s.heap.objs.size C x.cps.size ∧
          (∀ b o, s.heap.get? b = some o → h'.get? b = some o)) E) F.called_set.init.plain F.entry_set_init (check_set_init_1 isS ?_)) fun r₂ s₂ hr₂ => ?_
      · have hsls := PySem.F.sub_str_set
        have hslf := PySem.F.sub_str_frozenset
        have hne : (Value.type "str" == Value.type "dict") = false := by decide
        unfold Builtin.«set.__init__» noKeywords Builtin.Frozenset.updateFrom
        generalize hPI : pyIter = PI
        wp_walk
        subst hPI
        refine wpAny_pyIter_ascii asc ?_
        refine wpAny_bind (wpAny_runValue ?_)
        have h3 : A.in1.in1.in1.handled = none := by simp [hh]
        have none_at : ∀ b, s.heap.objs.size ≤ b → s.heap.get? b = none := fun b hb => by
          cases e : s.heap.get? b with
          | none => rfl
          | some o => exact absurd (Nat.lt_of_lt_of_le (Heap.lt_size e) hb) (Nat.lt_irrefl _)
        have nS : s.heap.objs.size ∉ [(s.heap.push (setZ w)).objs.size] := by
          rw [Heap.size_push]
          intro hm
          exact Nat.ne_of_lt (Nat.lt_succ_self _) (List.mem_singleton.mp hm)
        refine zet_walk (C := C) (Walks.strAscii h3 _ x t).toS s.heap.objs.size nS hz hC (x.cps.size - 0) 0 _ (by omega) (Nat.zero_le _) ⟨_, Heap.get?_push_size _ rfl, rfl, rfl⟩ ?emp ?out
        case emp =>
          refine ⟨_, #[], 0, _, Heap.get?_push_of_some _ atS, ⟨rfl, rfl, rfl⟩, rfl, (fun e he => by simp at he), Nat.le_refl _, rfl, List.Pairwise.nil, ?_⟩
          show _ ∨ (!w.params.followText "set-order") = true
          cases w.params.followText "set-order"
          · exact .inr rfl
          · exact .inl rfl
        case out =>
          intro s' m T
          have kp := moved_keeps m (h0 := s.heap) (fun b hb => by
            rcases List.mem_cons.mp hb with e | hb
            · rw [e]
              exact none_at _ (Nat.le_refl _)
            · rw [List.mem_singleton.mp hb, Heap.size_push]
              exact none_at _ (Nat.le_succ _)) (fun b o e => Heap.get?_push_of_some _ (Heap.get?_push_of_some _ e))
          obtain ⟨h', g2, d2, tk2, os2⟩ := s'
          obtain rfl : g2 = s.gens := m.gens
          obtain rfl : d2 = s.drawn := m.drawn
          obtain rfl : os2 = s.os := m.os
          show wpAny _ _ _ _ _ _
          refine wpAny_pure ?_
          show wpAny _ _ (ret Value.none) _ _ _
          exact wpAny_pure ⟨rfl, h', tk2, rfl, T, kp⟩
      · cases r₂ with
        | error e => exact hr₂
        | ok fl₂ =>
          cases fl₂ with
          | ret r =>
            obtain ⟨rfl, h', tk, rfl, T, kp⟩ := hr₂
            repeat (any_goals (first | assumption | wp_step))
            exact fin _ _ T kp
          | _ => exact hr₂.elim
    | _ => exact hr.elim
theorem vals_strs {C : Str → Prop} : ∀ (vs : List Value), (∀ v ∈ vs, ∃ k u, v = Value.str k u ∧ C k) → ∃ ss : List Str, PySem.W.EachIs (fun v k => ∃ u, v = Value.str k u) vs ss ∧ ∀ k ∈ ss, C k
  | [], _ => ⟨[], .nil, fun k h => by cases h⟩
  | v :: vs, h => by
    obtain ⟨k, u, e, hk⟩ := h v (.head _)
    obtain ⟨ss, e1, s1⟩ := vals_strs vs fun x hx => h x (.tail _ hx)
    refine ⟨k :: ss, .cons ⟨u, e⟩ e1, fun z hz => ?_⟩
    rcases List.mem_cons.mp hz with c | c
    · rw [c]
      exact hk
    · exact s1 z c
/-- sorted(such a set) -/
theorem zet_sorted {C : Str → Prop} {n : Nat} {Q : Value → Shared → Prop} (T : ZetR w s.heap a C n) (hn : n ≤ 60) (hh : A.handled = none) (hu : A.units + 64 < cLine)
    (hQ : ∀ s' p (out : List Value) (c : Nat) (ss : List Str), (∀ b o, s.heap.get? b = some o → s'.heap.get? b = some o) → s'.gens = s.gens → s'.os = s.os → s.heap.objs.size ≤ p →
      s'.heap.get? p = some (seqObj "list" out.toArray c) → PySem.W.EachIs (fun v k => ∃ u, v = Value.str k u) out ss → (∀ k ∈ ss, C k) → ss.length ≤ n → Q (.ref p) s') :
    wpAny (model P w) A (call (.builtin "sorted") [.ref a]) Q E s := by
  obtain ⟨ob, es, ep, tb, ho, hex, hdt, g, hz, hf, hr, hl⟩ := T
  refine Calls.call_function_entry kind_sorted plain_sorted entry_sorted (args_sorted1 _) ?_
  unfold Builtin.«sorted»
  refine wpAny_bind (m := checkCount "sorted" 1 1 _) (wpAny_pure ?_)
  refine wpAny_bind (collect_set (A := A.in1) hh ⟨ob, ho, hex.1, hdt⟩ hf (by unfold scanBound; omega) hr hl fun s1 vs k1 hz1 g1 o1 pm => ?_)
  obtain ⟨ss, ev, hs⟩ := vals_strs (C := C) vs fun v hv => by
    obtain ⟨e, he, rfl⟩ := List.mem_map.mp (pm.mem_iff.mp hv)
    obtain ⟨k, u, rfl, hk⟩ := g e he
    exact ⟨k, u, rfl, hk⟩
  have lvs : vs.length ≤ n := by
    have e1 := pm.length_eq
    have e2 : es.toList.length = es.size := Array.length_toList
    rw [List.length_map, e2] at e1
    omega
  have lss : ss.length = vs.length := ev.length.symm
  refine wpAny_bind (wpAny_newList ?_ (by rw [sizeLine_eq]; omega))
  have atL : (s1.heap.push (seqObj "list" vs.toArray 0)).get? s1.heap.objs.size = some (seqObj "list" vs.toArray 0) := Heap.get?_push_size _ rfl
  have ed : PySem.W.EachIs (fun v k => ∃ as, PySem.Reads (s1.heap.push (seqObj "list" vs.toArray 0)) v (PyData.str k) as ∧ s1.heap.objs.size ∉ as) vs ss := ev.mono fun v k ⟨u, e⟩ => ⟨[], by rw [e]; exact .str _ _, by simp⟩
  refine wpAny_bind (wpAny_holding (PySem.W.list_sort_data (s := { s1 with heap := s1.heap.push (seqObj "list" vs.toArray 0) }) atL ev ed (.of fun b b' => ?_) (.others fun b => ⟨?_, fun xs => ?_⟩) (by rw [sizeLine_eq]; omega) (fun b hb => ?_) fun out ol eo => ?_))
  · show PySem.W.alike (.str _) (.str _) = true
    rw [PySem.W.alike]
  · intro e
    cases e
  · intro e
    cases e
  · show A.in1.units + 1 + PyData.depth (.str b) < cLine
    have e : A.in1.units = A.units + 1 := rfl
    rw [PyData.depth]
    omega
  obtain ⟨c, hc⟩ := sortedHeap_at (vs := vs) (out := out.toArray) atL
  refine wpAny_pure ⟨_, rfl, hQ _ s1.heap.objs.size out c _ (fun b u e => ?_) g1 o1 hz1 hc eo (fun k hk => ?_) ?_⟩
  · have q := k1 b u e
    have hlt := Heap.lt_size q
    show (sortedHeap (s1.heap.push (seqObj "list" vs.toArray 0)) s1.heap.objs.size vs out.toArray).get? b = some u
    rw [sortedHeap_old (Nat.ne_of_lt hlt) (by rw [size_push']; exact Nat.lt_succ_of_lt hlt)]
    exact Heap.get?_push_of_some _ q
  · exact hs k ((List.mergeSort_perm _ _).mem_iff.mp hk)
  · rw [(List.mergeSort_perm _ _).length_eq, lss]
    exact lvs
theorem vals_of_each : ∀ {vs : List Value} {ss : List Str}, PySem.W.EachIs (fun v k => ∃ u, v = Value.str k u) vs ss → Vals (ss.map V.str) vs
  | _, _, .nil => .nil
  | _, _, .cons ⟨u, e⟩ t => .cons ⟨u, e⟩ (vals_of_each t)
end
def ZetO (w : World) (a : Addr) (C : Str → Prop) (n : Nat) : HO := .ext fun h => ZetR w h a C n
section
variable {X : Cx}
theorem zetO_new {w : World} {P : Program} {H : Hp} {h : Heap} {a : Addr} {C : Str → Prop} {n : Nat} (R : ZetR w h a C n) : ObjOk P w H h a (ZetO w a C n) := by
  obtain ⟨ob, es, ep, tb, ho, r⟩ := id R
  exact ⟨R, ⟨ob, ho⟩, fun h1 h2 p k => ZetR.keep p k⟩
/-- set(a text) -/
def rZet (w : World) : List V → Hp → VK → Prop := fun xs H Q => ∃ (x : Str), xs = [.str x] ∧ (∀ c ∈ x.cps.toList, c < 128) ∧ x.cps.size ≤ 60 ∧ ∀ a, H a = none → Q (.ref a) (upd H a (ZetO w a (fun k => ∃ c ∈ x.cps.toList, k = ⟨#[c]⟩) x.cps.size))
theorem cr_zet (hc : X.calm = true) : CallR X (.type "set") (rZet X.w) := by
  intro pins s σ H xs us Q I r h
  obtain ⟨x, rfl, hx, hz, q⟩ := h
  obtain ⟨u, rfl, t, rfl⟩ := vals1 r
  have hn : H s.heap.objs.size = none := I.hok.fresh (Nat.le_refl _)
  refine zet_set (P := X.prog) (w := X.w) (A := X.A) (C := fun k => ∃ c ∈ x.cps.toList, k = ⟨#[c]⟩) (I.ok.hd hc) (by rw [← Array.all_toList, List.all_eq_true]; exact fun c hc => decide_eq_true (hx c hc)) hz (fun i v hv => ?_) ?_
  · obtain ⟨c, u, hc, rfl⟩ := hv
    exact ⟨_, u, rfl, c, List.mem_of_getElem? (by rw [Array.getElem?_toList]; exact hc), rfl⟩
  · intro h' tk T k
    exact ⟨.ref s.heap.objs.size, upd H s.heap.objs.size (ZetO X.w s.heap.objs.size (fun k => ∃ c ∈ x.cps.toList, k = ⟨#[c]⟩) x.cps.size), I.laid (t' := tk) k (Nat.le_refl _) (zetO_new T), rfl, q _ hn⟩
/-- sorted(such a set) -/
def rZetSorted (w : World) : List V → Hp → VK → Prop := fun vs H Q => ∃ (a : Addr) (C : Str → Prop) (n : Nat), vs = [V.ref a] ∧ H a = some (ZetO w a C n) ∧ n ≤ 60 ∧ ∀ (ss : List Str) (p : Addr), (∀ k ∈ ss, C k) → ss.length ≤ n → H p = none → Q (.ref p) (upd H p (.lst (ss.map V.str)))
set_option maxHeartbeats 2000000 in
theorem cr_zetSorted (hc : X.calm = true) (hu : X.A.units + 64 < cLine) : CallR X (.builtin "sorted") (rZetSorted X.w) := by
  intro pins s σ H vs us Q I r h
  obtain ⟨a, C, n, rfl, ha, hn60, q⟩ := h
  have T : ZetR X.w s.heap a C n := (I.hok a _ ha).1
  rw [Vals.ref1 r]
  refine zet_sorted T hn60 (I.ok.hd hc) hu ?_
  intro s' p out c ss k g o hp hg eo hs hlen
  have hl : (ss.map V.str).length ≤ sizeLine := by
    rw [List.length_map, sizeLine_eq]
    omega
  have hn : H p = none := I.hok.fresh hp
  have hv : Vals (ss.map V.str) out.toArray.toList := by simpa using vals_of_each eo
  have J : Inv X pins σ (upd H p (.lst (ss.map V.str))) { s with heap := s'.heap, gens := s'.gens, drawn := s'.drawn, toks := s'.toks } :=
    I.call (ch := []) (Un.laid k hp hn) (I.hok.laid k hp ⟨hl, out.toArray.toList, c, hv, hg⟩) (by rw [g]; exact I.bare) (fun _ z => nomatch z)
  have es' : s' = { s with heap := s'.heap, gens := s'.gens, drawn := s'.drawn, toks := s'.toks } := by
    cases s'
    cases s
    cases o
    rfl
  rw [es']
  exact ⟨.ref p, _, J, rfl, q ss p hs hlen hn⟩
end
end Om
end PartRu11
section PartC10
set_option Elab.async false
set_option linter.all false
set_option maxRecDepth 100000
set_option maxHeartbeats 400000
namespace Om
open PySem PySem.Spec PyProof.Rows L2 He TL
theorem gsn_128 : ∀ c ∈ gsn, c < 128 := by decide
theorem tl_app (a b : Str) : tl (a ++ b) = tl a ++ tl b := by
  show (a.cps ++ b.cps).toList = _
  simp
theorem rows_ok {rows : List Str} {wd : Nat} (ok : RowsOk rows wd) : ∀ r ∈ rows, PyData.strOk r = true := fun r hr => strOk_iff.mpr fun c hc => gsn_small c (ok.sg r hr c hc)
theorem sq_kyS {K : Frg} {S : List Addr} {H H' : Hp} {a : Addr} {l : List Str} (ok : ∀ r ∈ l, PyData.strOk r = true) (h : SqT K H a (l.map V.str)) (k : Ky S H H') : SqT K H' a (l.map V.str) := by
  have t : tupOnly (.tuple (l.map PyData.str)) = true := by
    unfold tupOnly tupD
    exact tupDs_str 7 ok
  have := dp_tk k.2 t (.tup h (dps_str l))
  cases this with
  | tup hs ha =>
    rw [dps_str_eq ha] at hs
    exact hs
theorem insG_tupN {n : Nat} {ds : List PyData} (h : InsG ds) : tupD (n + 2) (.tuple ds) = true := by
  have st : ∀ {n : Nat} {z : Str}, SgT z → tupD n (.str z) = true := fun {n z} h => by unfold tupD; exact h.1
  have is : ∀ {n : Nat} {i : Int}, tupD n (.int i) = true := fun {n i} => by unfold tupD; rfl
  have wd : ∀ {n : Nat} {z : Str}, PyData.strOk z = true → tupD n (.str z) = true := fun {n z} h => by unfold tupD; exact h
  have c1 : ∀ {n : Nat} {d : PyData} {r : List PyData}, tupD n d = true → tupDs n r = true → tupDs n (d :: r) = true := fun {n d r} h1 h2 => by unfold tupDs; rw [h1, h2]; rfl
  have nl : ∀ {n : Nat}, tupDs n [] = true := fun {n} => by unfold tupDs; rfl
  unfold tupD
  cases h with
  | turn ts _ _ => exact c1 (wd (by decide +kernel)) (c1 (by unfold intsD tupD; exact tupDs_int _ ts) nl)
  | walk a b _ _ _ _ => exact c1 (wd (by decide +kernel)) (c1 is (c1 is nl))
  | untl s sg => exact c1 (wd (by decide +kernel)) (c1 (st sg) nl)
  | towd s sg => exact c1 (wd (by decide +kernel)) (c1 (st sg) nl)
  | besd d s _ _ sg => exact c1 (wd (by decide +kernel)) (c1 is (c1 (st sg) nl))
  | near s m sg _ _ => exact c1 (wd (by decide +kernel)) (c1 (st sg) (c1 is nl))
  | shor sd a b _ _ _ _ _ _ => exact c1 (wd (by decide +kernel)) (c1 is (c1 is (c1 is nl)))
theorem insG_tup {ds : List PyData} (h : InsG ds) : tupOnly (.tuple ds) = true := insG_tupN (n := 6) h
theorem insG_tup6 {ds : List PyData} (h : InsG ds) : tupD 6 (.tuple ds) = true := insG_tupN (n := 4) h
theorem DrAt.ky {K : Frg} {S : List Addr} {H H' : Hp} {da : Addr} {rows : List Str} {wd : Nat} {sg : Str} {ts : List Int} {iss : List (List PyData)} (h : DrAt K H da rows wd sg ts iss) (k : Ky S H H') : DrAt K H' da rows wd sg ts iss := by
  obtain ⟨ra, ta, ia, xi, h1, h2, h3, h4, h5, h6, h7, h8, h9, h10⟩ := h
  have c1 : ∀ {n : Nat} {d : PyData} {r : List PyData}, tupD n d = true → tupDs n r = true → tupDs n (d :: r) = true := fun {n d r} h1 h2 => by unfold tupDs; rw [h1, h2]; rfl
  have tI : tupDs 6 (iss.map PyData.tuple) = true := by
    have : ∀ l : List (List PyData), (∀ d ∈ l, InsG d) → tupDs 6 (l.map PyData.tuple) = true := fun l => by
      induction l with
      | nil => intro _; unfold tupDs; rfl
      | cons a r ih =>
        intro hl
        refine c1 ?_ (ih fun d hd => hl d (.tail _ hd))
        exact insG_tup6 (hl a (.head _))
    exact this iss h9
  have td : tupOnly (.tuple [.tuple (rows.map PyData.str), .str sg, .tuple (ts.map PyData.int), .tuple (iss.map PyData.tuple)]) = true := by
    unfold tupOnly tupD
    refine c1 ?_ (c1 ?_ (c1 ?_ (c1 ?_ ?_)))
    · unfold tupD; exact tupDs_str _ (rows_ok h3)
    · unfold tupD; exact h4.1
    · unfold tupD; exact tupDs_int _ ts
    · unfold tupD; exact tI
    · unfold tupDs; rfl
  have dp : Dp K H (.ref da) (.tuple [.tuple (rows.map PyData.str), .str sg, .tuple (ts.map PyData.int), .tuple (iss.map PyData.tuple)]) := .tup h1 (.cons (.tup h2 (dps_str rows)) (.cons (.str _) (.cons (.tup h5 (dps_int ts)) (.cons (.tup h7 h8) .nil))))
  cases dp_tk k.2 td dp with
  | tup hs ha =>
    cases ha with
    | cons a1 ha =>
      cases ha with
      | cons a2 ha =>
        cases ha with
        | cons a3 ha =>
          cases ha with
          | cons a4 ha =>
            cases ha
            cases a2
            cases a1 with
            | tup r1 r2 =>
              cases a3 with
              | tup t1 t2 =>
                cases a4 with
                | tup i1 i2 =>
                  rw [dps_str_eq r2] at r1
                  rw [dps_int_eq t2] at t1
                  exact ⟨_, _, _, _, hs, r1, h3, h4, t1, h6, i1, i2, h9, h10⟩
theorem NewL.away {K : Frg} {H : Hp} {p ha la : Addr} {ls : List (List Int)} (h : NewL K H p (ls.map tupI)) (ne : ls ≠ []) (hx : HX H ha la) : p ∉ [ha, la] := by
  obtain ⟨xs, e1, e2, _⟩ := h
  obtain ⟨s, c, cs, h1, h2, _⟩ := hx
  obtain ⟨l, r, rfl⟩ : ∃ l r, ls = l :: r := by
    cases ls with
    | nil => exact absurd rfl ne
    | cons l r => exact ⟨l, r, rfl⟩
  cases e2 with
  | cons d t =>
    obtain ⟨a, rfl, _⟩ := dp_tupI_inv d
    intro hm
    rcases List.mem_cons.mp hm with e | hm
    · rw [e, h1] at e1
      cases e1
    · rw [List.mem_singleton.mp hm, h2] at e1
      injection e1 with e1
      injection e1 with e1
      cases cs with
      | nil => cases e1
      | cons a r => cases e1
section
variable {w : World} {K : Frg} {mg : Str → Option Value} {base : Heap}
/-- _law_drawn -/
def sp__law_drawn (K : Frg) : Sp := fun vs H Q _ => ∃ (ha la : Addr), vs = [.ref ha, .int 4, .int 4] ∧ HX H ha la ∧ ∀ (p : Addr) (rows : List Str) (wd : Nat) (sg : Str) (ts : List Int) (iss : List (List PyData)) (H' : Hp), DrAt K H' p rows wd sg ts iss → Ky [ha, la] H H' → HX H' ha la → Q (.ref p) H'
theorem sc__law_drawn : FnScope ["_law_h", "_law_size", "_law_most", "_law_rows_here", "_law_cells_here", "_law_some", "_law_signs_here", "_law_found", "_law_k", "_law_one_here", "_law_other", "_law_longer"] ["_law_h", "_law_size", "_law_most"] (defScope s__law_drawn) := ⟨rfl, rfl, rfl, by decide +kernel, rfl, by decide +kernel, by decide +kernel⟩
theorem ok__law_drawn (T : Tx w K mg) : FnOk prg w K mg base CX0 6 (ga K "_law_drawn") (fdOf K (ga K "_law_drawn")) ["_law_h", "_law_size", "_law_most"] (sp__law_drawn K) := by
  refine T.f__law_drawn.ok sc__law_drawn (fun vs H Q E h => ?_) (fun cdv A outer s H vs Q E hr h => ?_)
  · obtain ⟨ha, la, rfl, _⟩ := h
    rfl
  · obtain ⟨ha, la, rfl, hx, q⟩ := h
    refine ⟨_, PSs.nox (pss_cons (ps_set (i := 3) sc__law_drawn.nd rfl (Or.inl rfl) (pe_call (ok__law_rows T) (hr.mono (by decide)) (by rfl) T.g__law_rows T.f__law_rows.kp T.p__law_rows .nil pass0 (pa_cons (pv 0) (pa_cons (pv 1) pa_nil))))
      (pss_cons (ps_set (i := 4) sc__law_drawn.nd rfl (Or.inl rfl) (pe_call (ok__law_cells T) (hr.mono (by decide)) (by rfl) T.g__law_cells T.f__law_cells.kp T.p__law_cells .nil pass0 (pa_cons (pv 3) pa_nil)))
      (pss_cons (ps_set (i := 5) sc__law_drawn.nd rfl (Or.inl rfl) (pe_call (ok__law_sign T) (hr.mono (by decide)) (by rfl) T.g__law_sign T.f__law_sign.kp T.p__law_sign .nil pass0 (pa_cons (pv 3) (pa_cons (pe_ix ix_list (pv 4) (pe_call (ok__law_next T) (hr.mono (by decide)) (by rfl) T.g__law_next T.f__law_next.kp T.p__law_next .nil pass0 (pa_cons (pv 0) (pa_cons (pe_callB call_len_seq (by rfl) T.b_len PySem.boot_len (pa_cons (pv 4) pa_nil)) pa_nil))) (fun _ _ => rfl)) pa_nil))))
      (pss_cons (ps_set (i := 6) sc__law_drawn.nd rfl (Or.inl rfl) (pe_bm PySem.F.plainAttrs_str PySem.F.slot_str_join PySem.F.type_str_join mt_join pe_str (pa_cons (pe_callB (cr_zetSorted rfl hr.units) (by rfl) T.b_sorted boot_sorted (pa_cons (pe_callTy (cr_zet rfl) (by rfl) T.b_set boot_set (pa_cons (pe_op op_add_str (pv 5) (pe_ix ix_list (pe_lst (pa_cons pe_str (pa_cons pe_str (pa_cons pe_str (pa_cons pe_str pa_nil))))) (pe_call (ok__law_next T) (hr.mono (by decide)) (by rfl) T.g__law_next T.f__law_next.kp T.p__law_next .nil pass0 (pa_cons (pv 0) (pa_cons pe_int pa_nil))) (fun _ _ => rfl))) pa_nil)) pa_nil)) pa_nil)))
      (pss_cons (ps_set (i := 7) sc__law_drawn.nd rfl (Or.inl rfl) (pe_tup (pa_cons (pv 3) (pa_cons (pv 6) (pa_cons (pe_call (ok__law_turns T) (hr.mono (by decide)) (by rfl) T.g__law_turns T.f__law_turns.kp T.p__law_turns .nil pass0 (pa_cons (pv 0) pa_nil)) (pa_cons (pe_tup pa_nil) pa_nil))))))
      (pss_cons (ps_for PassesOwn.never rfl (pi_range1 (by rfl) T.b_range (pa_cons (pe_call (ok__law_next T) (hr.mono (by decide)) (by rfl) T.g__law_next T.f__law_next.kp T.p__law_next .nil pass0 (pa_cons (pv 0) (pa_cons (pe_op op_add (pv 2) pe_int) pa_nil))) pa_nil)) (pg_name (i := 8) sc__law_drawn.nd rfl (Or.inl rfl)) (pss_cons (ps_par (i := 9) (j := 10) (by rfl) sc__law_drawn.nd rfl rfl (by decide) rfl rfl (pa_cons (pe_call (ok__law_one T) (hr.mono (by decide)) (by rfl) T.g__law_one T.f__law_one.kp T.p__law_one .nil pass0 (pa_cons (pv 0) pa_nil)) (pa_cons (pe_call (ok__law_one T) (hr.mono (by decide)) (by rfl) T.g__law_one T.f__law_one.kp T.p__law_one .nil pass0 (pa_cons (pv 0) pa_nil)) pa_nil)) (by rfl))
      (pss_cons (ps_set (i := 11) sc__law_drawn.nd rfl (Or.inl rfl) (pe_op op_catA (pe_slice sl_tupA (pv 7) po_none (po_some pe_int)) (pe_tup (pa_cons (pe_op op_catA (pe_ix ix_tup (pv 7) pe_int (fun _ _ => rfl)) (pe_tup (pa_cons (pv 9) pa_nil))) pa_nil))))
      (pss_one (ps_set (i := 7) sc__law_drawn.nd rfl (Or.inl rfl) (pe_ifExp (PW.pt (pw_or (pt_cmpR (op_neD hr.units) (pe_call (ok__law_final T) (hr.mono (by decide)) (by rfl) T.g__law_final T.f__law_final.kp T.p__law_final .nil pass0 (pa_cons (pv 11) pa_nil)) (pe_lst pa_nil) (nomark _)) (pw_or1 (pt_cmpR op_eq (pe_call (ok__law_next T) (hr.mono (by decide)) (by rfl) T.g__law_next T.f__law_next.kp T.p__law_next .nil pass0 (pa_cons (pv 0) (pa_cons pe_int pa_nil))) pe_int (nomark _))))) (pv 11) (pe_op op_catA (pe_slice sl_tupA (pv 7) po_none (po_some pe_int)) (pe_tup (pa_cons (pe_op op_catA (pe_ix ix_tup (pv 7) pe_int (fun _ _ => rfl)) (pe_tup (pa_cons (pv 10) pa_nil))) pa_nil)))))))))
      (pss_one (ps_ret (pv 7))))))))), ?_⟩
    refine ⟨_, rfl, _, rfl, ha, la, rfl, hx, fun p rows wd H1 ok land s1 k1 hx1 => ?_⟩
    refine ⟨_, rfl, p, rows, wd, rfl, s1, ok, fun pc H2 lc x2 nc hc zc hne => ?_⟩
    have hx2 := hx1.ex x2
    have lne := hne land
    have l1 : 1 ≤ lc.length := List.length_pos_iff.mpr lne
    have pcn := NewL.away nc lne hx2
    obtain ⟨xp, np3, np4⟩ := nc.sq
    rw [List.length_map] at np4
    have k12 := k1.trans (.of x2)
    refine ⟨_, rfl, _, rfl, _, rfl, _, rfl, pc, xp, rfl, .inl (.of np3), ha, la, _, rfl, hx2, by omega, by omega, fun v H3 v0 v1 k3 hx3 => ?_⟩
    obtain ⟨n, en⟩ : ∃ n : Nat, (n : Int) = v := ⟨v.toNat, by omega⟩
    obtain ⟨y, hy⟩ : ∃ y, xp[n]? = some y := ⟨_, List.getElem?_eq_getElem (by omega)⟩
    obtain ⟨a, l, rfl, hl, sl⟩ := nc.at np3 hy
    obtain ⟨i', j', rfl, g1, g2, g3, g4⟩ := hc l hl
    have k23 := k12.trans k3
    have s3 : SqT K H3 p (rows.map V.str) := sq_kyS (fun r hr => rows_ok ok r hr) (Evl.ex_t x2 s1) k3
    refine ⟨pc, _, _, .ref a, rfl, rfl, .of (k3.1 pc _ pcn np3), by rw [← en]; exact atI_nat hy, p, a, rows, wd, i', j', [], rfl, s3, ok, sq_ky (l := [i', j']) sl k3, ?_⟩
    have hg := sign_gsn ok i' j'
    generalize signAt rows i' j' = c0 at hg ⊢
    refine ⟨rfl, _, rfl, Evl.sz_of (by simp), fun p4 hp4 => ⟨_, rfl, ha, la, 4, rfl, hx3.new hp4, by decide, by decide, fun v H4 v0 v1 k4 hx4 => ?_⟩⟩
    have hp4' := k4.1 p4 _ (hx3.fresh hp4) (upd_same (o := .lst [V.str ".", V.str "A", V.str "", V.str ""]))
    obtain ⟨t2, ht, tz, tg⟩ : ∃ t2 : Str, atI [V.str ".", V.str "A", V.str "", V.str ""] v = some (.str t2) ∧ (tl t2).length ≤ 1 ∧ ∀ c ∈ tl t2, c ∈ gsn := by
      have hv : v = 0 ∨ v = 1 ∨ v = 2 ∨ v = 3 := by omega
      rcases hv with rfl | rfl | rfl | rfl
      · exact ⟨_, rfl, by decide +kernel, by decide +kernel⟩
      · exact ⟨_, rfl, by decide +kernel, by decide +kernel⟩
      · exact ⟨_, rfl, by decide +kernel, by decide +kernel⟩
      · exact ⟨_, rfl, by decide +kernel, by decide +kernel⟩
    have etl : tl (oneS c0 ++ t2) = c0 :: tl t2 := tl_app (oneS c0) t2
    have xz : (oneS c0 ++ t2).cps.size ≤ 2 := by
      have : (tl (oneS c0 ++ t2)).length ≤ 2 := by rw [etl]; simp; omega
      exact this
    have xg : ∀ c ∈ tl (oneS c0 ++ t2), c ∈ gsn := fun c hc => by
      rw [etl] at hc
      rcases List.mem_cons.mp hc with e | h
      · rw [e]
        exact hg
      · exact tg c h
    refine ⟨p4, _, _, .str t2, rfl, rfl, .of hp4', ht, _, _, rfl, rfl, Evl.sz_of (by rw [len_tl, len_tl]; show 1 + _ ≤ _; omega), ?_⟩
    refine ⟨oneS c0 ++ t2, rfl, fun c hc => gsn_128 c (xg c hc), by omega, fun az haz => ?_⟩
    refine ⟨az, _, _, rfl, upd_same, by omega, fun ss p5 hs hz hp5 => ?_⟩
    have hs1 : ∀ s ∈ ss, ∃ c ∈ gsn, s = oneS c := fun s h => by
      obtain ⟨c, hc, e⟩ := hs s h
      exact ⟨c, xg c hc, e⟩
    have hz5 : ss.length ≤ 5 := by omega
    have l0 : (Str.ofString "").length = 0 := by decide +kernel
    refine ⟨_, p5, ss, rfl, rfl, .inl (.of upd_same), by rw [sum_one ss hs1, l0]; omega, ?_⟩
    have sg := sgT_join hs1 hz5
    generalize Txt.join (Str.ofString "") ss = sgs at sg ⊢
    have k45 : Ky [ha, la] H3 (upd (upd H4 az (ZetO w az (fun k => ∃ c ∈ (oneS c0 ++ t2).cps.toList, k = ⟨#[c]⟩) (oneS c0 ++ t2).cps.size)) p5 (.lst (ss.map V.str))) := (((Ky.new hp4).trans k4).trans (.new haz)).trans (.new hp5)
    have hx5 := (hx4.new (o := ZetO w az (fun k => ∃ c ∈ (oneS c0 ++ t2).cps.toList, k = ⟨#[c]⟩) (oneS c0 ++ t2).cps.size) haz).new (o := .lst (ss.map V.str)) hp5
    refine ⟨_, rfl, _, rfl, _, rfl, ha, la, rfl, hx5, fun pt ts H6 tok s6 k6 hx6 => ⟨Evl.sz_of (by simp), fun pe hpe => ⟨Evl.sz_of (by simp), fun pd hpd => ?_⟩⟩⟩
    have y6 := (ex_new (o := .tup []) hpe).trans (ex_new (o := .tup [V.ref p, V.str sgs, V.ref pt, V.ref pe]) hpd)
    have sp6 : SqT K H6 p (rows.map V.str) := sq_kyS (fun r hr => rows_ok ok r hr) s3 (k45.trans k6)
    have dr6 : DrAt K (upd (upd H6 pe (.tup [])) pd (.tup [V.ref p, V.str sgs, V.ref pt, V.ref pe])) pd rows wd sgs ts [] :=
      ⟨p, pt, pe, [], .of upd_same, Evl.ex_t y6 sp6, ok, sg, Evl.ex_t y6 s6, tok, Evl.ex_t (ex_new hpd) (.of upd_same), .nil, (fun d hd => by cases hd), Nat.zero_le _⟩
    have k7 : Ky [ha, la] H (upd (upd H6 pe (.tup [])) pd (.tup [V.ref p, V.str sgs, V.ref pt, V.ref pe])) := ((k23.trans k45).trans k6).trans (.of y6)
    have hx7 := hx6.ex y6
    generalize upd (upd H6 pe (.tup [])) pd (.tup [V.ref p, V.str sgs, V.ref pt, V.ref pe]) = H7 at dr6 k7 hx7 ⊢
    refine ⟨_, rfl, _, rfl, _, _, rfl, rfl, ha, la, 5, rfl, hx7, by decide, by decide, fun nv H8 n0 n1 k8 hx8 => ⟨_, rfl, by omega, by omega, ?_⟩⟩
    refine for_range (fun n σ H' => ∃ (pd : Addr) (iss : List (List PyData)) (o8 o9 o10 o11 : Option V), σ = [some (.ref ha), some (.int 4), some (.int 4), some (.ref p), some (.ref pc), some (.str (oneS c0)), some (.str sgs), some (.ref pd), o8, o9, o10, o11] ∧ DrAt K H' pd rows wd sgs ts iss ∧ iss.length ≤ n ∧ Ky [ha, la] H H' ∧ HX H' ha la)
      ⟨pd, [], none, none, none, none, rfl, dr6.ky k8, Nat.le_refl _, k7.trans k8, hx8⟩ ?_ ?_
    · rintro n σ G hn ⟨pd, iss, o8, o9, o10, o11, rfl, dr, hle, kk, hxx⟩
      have hn4 : n < 4 := by omega
      refine ⟨_, rfl, ha, la, rfl, hxx, fun p1 d1 G1 ig1 dp1 kg1 hg1 => ⟨_, rfl, ha, la, rfl, hg1, fun p2 d2 G2 ig2 dp2 kg2 hg2 => ⟨_, _, rfl, ?_⟩⟩⟩
      have dr2 := (dr.ky kg1).ky kg2
      have dp1' := dp_ky kg2 (insG_tup ig1) dp1
      have kk2 := (kk.trans kg1).trans kg2
      obtain ⟨ra, ta, ia, xi, h1, h2, _, h4, h5, h6, h7, h8, h9, h10⟩ := dr2
      refine ⟨_, rfl, _, rfl, ?_⟩
      refine slA (K := K) h1 (fun b G3 x3 hb => ?_)
      have ec : cutV [V.ref ra, V.str sgs, V.ref ta, V.ref ia] none (some 3) = [V.ref ra, V.str sgs, V.ref ta] := rfl
      rw [ec] at hb
      refine ⟨_, rfl, pd, _, 3, .ref ia, rfl, rfl, Evl.ex_t x3 h1, atI_nat (j := 3) rfl, _, rfl, Evl.sz_of (by simp), fun q1 hq1 => ?_⟩
      refine catA (K := K) (Evl.ex_t (x3.trans (ex_new hq1)) h7) (.of upd_same) (by rw [dps_len h8, List.length_map]; simp; omega) fun q2 G4 x4 hq2 => ?_
      refine ⟨Evl.sz_of (by simp), fun q3 hq3 => ?_⟩
      have x35 := ((ex_new (o := .tup [V.ref p1]) hq1).trans x4).trans (ex_new (o := .tup [V.ref q2]) hq3)
      refine catA (K := K) (Evl.ex_t x35 hb) (.of upd_same) (by simp) fun q4 G5 x5 hq4 => ?_
      have x25 := (x3.trans x35).trans x5
      have dr5 : DrAt K G5 q4 rows wd sgs ts (iss ++ [d1]) := ⟨ra, ta, q2, xi ++ [.ref p1], hq4, Evl.ex_t x25 h2, ok, h4, Evl.ex_t x25 h5, h6, Evl.ex_t ((ex_new hq3).trans x5) hq2, by rw [List.map_append]; exact dps_app (dps_ex x25 h8) (.cons (dp_ex x25 dp1') .nil), fun d hd => by
        rcases List.mem_append.mp hd with h | h
        · exact h9 d h
        · rw [List.mem_singleton.mp h]
          exact ig1, by rw [List.length_append]; simp; omega⟩
      have drF : DrAt K G5 pd rows wd sgs ts iss := ⟨ra, ta, ia, xi, Evl.ex_t x25 h1, Evl.ex_t x25 h2, ok, h4, Evl.ex_t x25 h5, h6, Evl.ex_t x25 h7, dps_ex x25 h8, h9, h10⟩
      have dp2' := dp_ex x25 dp2
      have kk5 := kk2.trans (.of x25)
      have hg5 := hg2.ex x25
      clear h1 h2 h5 h7 h8 x25 x35
      refine ⟨_, rfl, q4, rows, wd, sgs, ts, iss ++ [d1], rfl, dr5, fun pz G6 lz x6 nz => ⟨Evl.sz_of (by simp), fun q6 hq6 => ?_⟩⟩
      refine nil_ne (nz.ex (ex_new hq6)) upd_same ⟨_, rfl, ?_⟩
      have x67 := x6.trans (ex_new (o := .lst []) hq6)
      have take : ∀ {G' : Hp}, Ky [ha, la] G5 G' → HX G' ha la → ∃ (pd' : Addr) (iss' : List (List PyData)) (o8 o9 o10 o11 : Option V), [some (V.ref ha), some (.int 4), some (.int 4), some (.ref p), some (.ref pc), some (.str (oneS c0)), some (.str sgs), some (.ref q4), some (.int (0 + (n : Int))), some (.ref p1), some (.ref p2), some (.ref q4)] = [some (.ref ha), some (.int 4), some (.int 4), some (.ref p), some (.ref pc), some (.str (oneS c0)), some (.str sgs), some (.ref pd'), o8, o9, o10, o11] ∧ DrAt K G' pd' rows wd sgs ts iss' ∧ iss'.length ≤ n + 1 ∧ Ky [ha, la] H G' ∧ HX G' ha la := fun {G'} k hx => ⟨q4, iss ++ [d1], _, _, _, _, rfl, dr5.ky k, by rw [List.length_append]; simp; omega, kk5.trans k, hx⟩
      refine ifB (fun _ => ⟨_, rfl, take (.of x67) (hg5.ex x67)⟩) (fun _ => ?_)
      refine ⟨_, rfl, ha, la, 9, rfl, hg5.ex x67, by decide, by decide, fun v7 G7 w0 w1 k7 hx7 => ⟨rfl, _, rfl, ?_⟩⟩
      have k57 := (Ky.of (S := [ha, la]) x67).trans k7
      refine ifB (fun _ => ⟨_, rfl, take k57 hx7⟩) (fun _ => ?_)
      have dr7 := drF.ky k57
      have dp27 := dp_ky k57 (insG_tup ig2) dp2'
      obtain ⟨ra, ta, ia, xi, h1, h2, _, h4, h5, h6, h7, h8, h9, h10⟩ := dr7
      refine ⟨_, rfl, _, rfl, ?_⟩
      refine slA (K := K) h1 (fun b G3 x3 hb => ?_)
      have ec : cutV [V.ref ra, V.str sgs, V.ref ta, V.ref ia] none (some 3) = [V.ref ra, V.str sgs, V.ref ta] := rfl
      rw [ec] at hb
      refine ⟨_, rfl, pd, _, 3, .ref ia, rfl, rfl, Evl.ex_t x3 h1, atI_nat (j := 3) rfl, _, rfl, Evl.sz_of (by simp), fun q1 hq1 => ?_⟩
      refine catA (K := K) (Evl.ex_t (x3.trans (ex_new hq1)) h7) (.of upd_same) (by rw [dps_len h8, List.length_map]; simp; omega) fun q2 G4 x4 hq2 => ?_
      refine ⟨Evl.sz_of (by simp), fun q3 hq3 => ?_⟩
      have x35 := ((ex_new (o := .tup [V.ref p2]) hq1).trans x4).trans (ex_new (o := .tup [V.ref q2]) hq3)
      refine catA (K := K) (Evl.ex_t x35 hb) (.of upd_same) (by simp) fun q4 G5 x5 hq4 => ?_
      have x25 := (x3.trans x35).trans x5
      refine ⟨q4, iss ++ [d2], _, _, _, _, rfl, ⟨ra, ta, q2, xi ++ [.ref p2], hq4, Evl.ex_t x25 h2, ok, h4, Evl.ex_t x25 h5, h6, Evl.ex_t ((ex_new hq3).trans x5) hq2, by rw [List.map_append]; exact dps_app (dps_ex x25 h8) (.cons (dp_ex x25 dp27) .nil), fun d hd => ?_, by rw [List.length_append]; simp; omega⟩, by rw [List.length_append]; simp; omega, (kk5.trans k57).trans (.of x25), hx7.ex x25⟩
      rcases List.mem_append.mp hd with h | h
      · exact h9 d h
      · rw [List.mem_singleton.mp h]
        exact ig2
    · rintro σ G ⟨pd, iss, o8, o9, o10, o11, rfl, dr, hle, kk, hxx⟩
      exact ⟨_, rfl, q pd rows wd sgs ts iss G dr kk hxx⟩
end
end Om
end PartC10
section PartC11
set_option Elab.async false
set_option linter.all false
set_option maxRecDepth 100000
set_option maxHeartbeats 400000
namespace Om
open PySem PySem.Spec PyProof.Rows L2 He TL
/-- what words weigh, each with a blank -/
def wt (ws : List Str) : Nat := (ws.map fun z => (tl z).length + 1).sum
theorem wt_app (a b : List Str) : wt (a ++ b) = wt a + wt b := by simp [wt]
theorem join_len (ws : List Str) : (tl (Txt.join " " ws)).length ≤ wt ws := by
  have e1 : tl (Str.ofString " ") = [32] := by decide +kernel
  rw [tj, e1]
  refine Nat.le_trans (len_joinL _) ?_
  have : ∀ l : List Str, ((l.map tl).map (·.length)).sum + l.length = wt l := fun l => by
    induction l with
    | nil => rfl
    | cons a r ih =>
      unfold wt at ih ⊢
      simp only [List.map_cons, List.sum_cons, List.length_cons]
      omega
  have h := this ws
  rw [List.length_map]
  simp only [List.length_cons, List.length_nil]
  omega
theorem join_ln {ws : List Str} {n : Nat} (h1 : wt ws ≤ n) (h2 : ∀ w ∈ ws, LnT 1000 w) : LnT n (Txt.join " " ws) := by
  refine ⟨fun c hc => ?_, Nat.le_trans (join_len ws) h1⟩
  have e1 : tl (Str.ofString " ") = [32] := by decide +kernel
  rw [tj, e1] at hc
  rcases mem_joinL hc with h | ⟨p, hp, h⟩
  · rw [List.mem_singleton.mp h]
    decide
  · obtain ⟨w, hw, rfl⟩ := List.mem_map.mp hp
    exact (h2 w hw).1 c h
theorem join_sz {ws : List Str} (h : wt ws ≤ 1000) : (ws.map (·.length)).sum + ws.length * (Str.ofString " ").length ≤ 16777216 := by
  have e1 : (Str.ofString " ").length = 1 := by decide +kernel
  have : ∀ l : List Str, (l.map (·.length)).sum + l.length = wt l := fun l => by
    induction l with
    | nil => rfl
    | cons a r ih =>
      unfold wt at ih ⊢
      simp only [List.map_cons, List.sum_cons, List.length_cons, len_tl]
      simp only [len_tl] at ih
      omega
  have h2 := this ws
  rw [e1]
  omega
theorem lnT_ok {n : Nat} {z : Str} (h : LnT n z) : PyData.strOk z = true := strOk_iff.mpr fun c hc => (h.1 c hc).1
theorem LnT.mono {m n : Nat} {z : Str} (h : LnT m z) (e : m ≤ n) : LnT n z := ⟨h.1, Nat.le_trans h.2 e⟩
theorem gsn_ln : ∀ c ∈ gsn, c < 0x110000 ∧ c ≠ 10 := by decide
theorem sgT_ln {z : Str} (h : SgT z) : LnT 5 z := ⟨fun c hc => gsn_ln c (h.2.2 c hc), h.2.1⟩
theorem lit_ln {z : Str} {n : Nat} (h : ((tl z).all fun c => decide (c < 0x110000 ∧ c ≠ 10)) = true) (l : (tl z).length ≤ n) : LnT n z := ⟨fun c hc => of_decide_eq_true (List.all_eq_true.mp h c hc), l⟩
theorem wt_len : ∀ l : List Str, l.length ≤ wt l
  | [] => Nat.le_refl _
  | a :: r => by
    have ih := wt_len r
    unfold wt at ih ⊢
    simp only [List.map_cons, List.sum_cons, List.length_cons]
    omega
theorem sum_take_le {α : Type} (f : α → Nat) : ∀ (l : List α) (n : Nat), ((l.take n).map f).sum ≤ (l.map f).sum
  | [], n => by simp
  | a :: r, 0 => Nat.zero_le _
  | a :: r, n + 1 => by
    have := sum_take_le f r n
    simp only [List.take_succ_cons, List.map_cons, List.sum_cons]
    omega
theorem List.single_le_sum_nat : ∀ {l : List Nat} {n : Nat}, n ∈ l → n ≤ l.sum
  | a :: r, n, h => by
    rw [List.sum_cons]
    rcases List.mem_cons.mp h with e | h
    · omega
    · have := List.single_le_sum_nat h
      omega
theorem wt_one {ss : List Str} {z : Str} {m : Nat} (h1 : wt ss ≤ 6 * m) (h2 : (tl z).length ≤ 5) : wt (ss ++ [z]) ≤ 6 * (m + 1) := by
  rw [wt_app]
  have : wt [z] = (tl z).length + 1 := by simp [wt]
  omega
/-- a part's cost -/
def cst : PyData → Nat
  | .str z => (tl z).length + 1
  | .int _ => 2
  | .tuple ds => 2 * ds.length
  | _ => 0
def PtG (d : PyData) : Prop := (∃ z, d = .str z ∧ LnT 6 z) ∨ (∃ i : Int, d = .int i ∧ 0 ≤ i ∧ i ≤ 4) ∨ ∃ ts : List Int, d = intsD ts ∧ ∀ t ∈ ts, 0 ≤ t ∧ t ≤ 4
theorem insG_cost {ds : List PyData} (h : InsG ds) : (ds.map cst).sum ≤ 45 ∧ (∀ d ∈ ds, PtG d) := by
  have li : ∀ {h : Str}, h ∈ [("turn" : Str), "walk", "until", "toward", "beside", "near", "shore"] → LnT 6 h := fun {h} hm => by
    have : ∀ h ∈ [("turn" : Str), "walk", "until", "toward", "beside", "near", "shore"], ((tl h).all fun c => decide (c < 0x110000 ∧ c ≠ 10)) = true ∧ (tl h).length ≤ 6 := by decide +kernel
    exact lit_ln (this h hm).1 (this h hm).2
  have pw : ∀ {h : Str}, h ∈ [("turn" : Str), "walk", "until", "toward", "beside", "near", "shore"] → PtG (.str h) := fun hm => .inl ⟨_, rfl, li hm⟩
  have ps : ∀ {z : Str}, SgT z → PtG (.str z) := fun h => .inl ⟨_, rfl, (sgT_ln h).mono (by decide)⟩
  have pI : ∀ {i : Int}, 0 ≤ i → i ≤ 4 → PtG (.int i) := fun h1 h2 => .inr (.inl ⟨_, rfl, h1, h2⟩)
  cases h with
  | turn ts h1 h2 =>
    have e : (tl (Str.ofString "turn")).length = 4 := by decide +kernel
    refine ⟨by simp [cst, intsD, e]; omega, fun d hd => ?_⟩
    simp only [List.mem_cons, List.not_mem_nil, or_false] at hd
    rcases hd with rfl | rfl
    · exact pw (by simp)
    · exact .inr (.inr ⟨ts, rfl, fun t ht => ⟨(h2 t ht).1, by have := (h2 t ht).2; omega⟩⟩)
  | walk a b h1 h2 h3 h4 =>
    have e : (tl (Str.ofString "walk")).length = 4 := by decide +kernel
    refine ⟨by simp [cst, e], fun d hd => ?_⟩
    simp only [List.mem_cons, List.not_mem_nil, or_false] at hd
    rcases hd with rfl | rfl | rfl
    · exact pw (by simp)
    · exact pI h1 (by omega)
    · exact pI (by omega) h4
  | untl s sg =>
    have e : (tl (Str.ofString "until")).length = 5 := by decide +kernel
    have e2 : s.cps.size ≤ 5 := sg.2.1
    refine ⟨by simp [cst, e]; omega, fun d hd => ?_⟩
    simp only [List.mem_cons, List.not_mem_nil, or_false] at hd
    rcases hd with rfl | rfl
    · exact pw (by simp)
    · exact ps sg
  | towd s sg =>
    have e : (tl (Str.ofString "toward")).length = 6 := by decide +kernel
    have e2 : s.cps.size ≤ 5 := sg.2.1
    refine ⟨by simp [cst, e]; omega, fun d hd => ?_⟩
    simp only [List.mem_cons, List.not_mem_nil, or_false] at hd
    rcases hd with rfl | rfl
    · exact pw (by simp)
    · exact ps sg
  | besd d s h1 h2 sg =>
    have e : (tl (Str.ofString "beside")).length = 6 := by decide +kernel
    have e2 : s.cps.size ≤ 5 := sg.2.1
    refine ⟨by simp [cst, e]; omega, fun d hd => ?_⟩
    simp only [List.mem_cons, List.not_mem_nil, or_false] at hd
    rcases hd with rfl | rfl | rfl
    · exact pw (by simp)
    · exact pI h1 (by omega)
    · exact ps sg
  | near s m sg h1 h2 =>
    have e : (tl (Str.ofString "near")).length = 4 := by decide +kernel
    have e2 : s.cps.size ≤ 5 := sg.2.1
    refine ⟨by simp [cst, e]; omega, fun d hd => ?_⟩
    simp only [List.mem_cons, List.not_mem_nil, or_false] at hd
    rcases hd with rfl | rfl | rfl
    · exact pw (by simp)
    · exact ps sg
    · exact pI h1 (by omega)
  | shor sd a b h1 h2 h3 h4 h5 h6 =>
    have e : (tl (Str.ofString "shore")).length = 5 := by decide +kernel
    refine ⟨by simp [cst, e], fun d hd => ?_⟩
    simp only [List.mem_cons, List.not_mem_nil, or_false] at hd
    rcases hd with rfl | rfl | rfl | rfl
    · exact pw (by simp)
    · exact pI h1 (by omega)
    · exact pI h3 (by omega)
    · exact pI (by omega) h6
theorem int_wd4 {i : Int} (h1 : 0 ≤ i) (h2 : i ≤ 4) : LnT 6 (toString i : Str) ∧ (tl (toString i : Str)).length = 1 ∧ i.natAbs.log2 < 1920 := by
  have hi : i = 0 ∨ i = 1 ∨ i = 2 ∨ i = 3 ∨ i = 4 := by omega
  rcases hi with rfl | rfl | rfl | rfl | rfl <;> exact ⟨lit_ln (by decide +kernel) (by decide +kernel), by decide +kernel, by decide +kernel⟩
/-- a value that becomes a word -/
def PV (v : V) : Prop := (∃ z, v = .str z ∧ LnT 6 z) ∨ ∃ i : Int, v = .int i ∧ 0 ≤ i ∧ i ≤ 4
def cv : V → Nat
  | .str z => (tl z).length + 1
  | .int _ => 2
  | _ => 0
section
variable {w : World} {K : Frg} {mg : Str → Option Value} {base : Heap}
/-- _law_text_of -/
def sp__law_text_of (K : Frg) : Sp := fun vs H Q _ => ∃ (da : Addr) (rows : List Str) (wd : Nat) (sg : Str) (ts : List Int) (iss : List (List PyData)), vs = [.ref da] ∧ DrAt K H da rows wd sg ts iss ∧
  ∀ (p : Addr) (H' : Hp) (ls : List Str), Ex H H' → H' p = some (.lst (ls.map V.str)) → ls ≠ [] → ls.length ≤ 10 → (∀ l ∈ ls, LnT 45 l) → Q (.ref p) H'
theorem sc__law_text_of : FnScope ["_law_drawn_here", "_law_begin_here", "_law_found", "_law_instruction", "_law_words", "_law_part", "_law_some", "_law_facing", "_law_one_here"] ["_law_drawn_here"] (defScope s__law_text_of) := ⟨rfl, rfl, rfl, by decide +kernel, rfl, by decide +kernel, by decide +kernel⟩
theorem ok__law_text_of (T : Tx w K mg) : FnOk prg w K mg base CX0 1 (ga K "_law_text_of") (fdOf K (ga K "_law_text_of")) ["_law_drawn_here"] (sp__law_text_of K) := by
  refine T.f__law_text_of.ok sc__law_text_of (fun vs H Q E h => ?_) (fun cdv A outer s H vs Q E hr h => ?_)
  · obtain ⟨da, rows, wd, sg, ts, iss, rfl, _⟩ := h
    rfl
  · obtain ⟨da, rows, wd, sg, ts, iss, rfl, hd, q⟩ := h
    refine ⟨_, PSs.nox (pss_cons (ps_set (i := 1) sc__law_text_of.nd rfl (Or.inl rfl) (pe_bm PySem.F.plainAttrs_str PySem.F.slot_str_join PySem.F.type_str_join mt_join pe_str (pa_cons (pe_op op_cat (pe_lst (pa_cons pe_str (pa_cons (pe_ix ix_tup (pv 0) pe_int (fun _ _ => rfl)) pa_nil))) (pe_lc (own := [("_law_facing", 7)]) (g := gName 7) rfl sc__law_text_of.nd (pi_tup (pe_ix ix_tup (pv 0) pe_int (fun _ _ => rfl))) (blkOk_by (own := [("_law_facing", 7)]) (N := ["_law_drawn_here", "_law_begin_here", "_law_found", "_law_instruction", "_law_words", "_law_part", "_law_some", "_law_facing", "_law_one_here"]) (sc := defScope s__law_text_of) (by decide +kernel)) (fun _ _ _ _ _ => pg_name (i := 7) sc__law_text_of.nd rfl (Or.inl rfl)) (fun _ _ _ _ _ => pts_nil) (fun _ _ _ _ _ => (pe_ix (kIx (K := K) (r := rIxL) rfl ix_list) (pe_lst (pa_cons pe_str (pa_cons pe_str (pa_cons pe_str (pa_cons pe_str pa_nil))))) (pv 7) (fun _ _ => rfl))))) pa_nil)))
      (pss_cons (ps_set (i := 2) sc__law_text_of.nd rfl (Or.inl rfl) (pe_op op_cat (pe_op op_cat (pe_lst (pa_cons pe_str pa_nil)) (pe_callTy call_list_of (by rfl) T.b_list boot_list (pa_cons (pe_ix ix_tup (pv 0) pe_int (fun _ _ => rfl)) pa_nil))) (pe_lst (pa_cons (pv 1) pa_nil))))
      (pss_cons (ps_for PassesOwn.never rfl (pi_tup (pe_ix ix_tup (pv 0) pe_int (fun _ _ => rfl))) (pg_name (i := 3) sc__law_text_of.nd rfl (Or.inl rfl)) (pss_cons (ps_set (i := 4) sc__law_text_of.nd rfl (Or.inl rfl) (pe_lst pa_nil))
      (pss_cons (ps_for PassesOwn.never rfl (pi_tup (pv 3)) (pg_name (i := 5) sc__law_text_of.nd rfl (Or.inl rfl)) (Evl.pss_cut (ps_set (i := 6) sc__law_text_of.nd rfl (Or.inl rfl) (pe_ifExp (pt_val (pe_callB call_isi (by rfl) T.b_isinstance boot_isinstance (pa_cons (pv 5) (pa_cons (pe_bltn (v := .ty "tuple") (by rfl) T.b_tuple boot_tuple rfl) pa_nil)))) (pv 5) (pe_tup (pa_cons (pv 5) pa_nil))))
      (pss_one (ps_set (i := 4) sc__law_text_of.nd rfl (Or.inl rfl) (pe_op op_cat (pv 4) (pe_lc (own := [("_law_one_here", 8)]) (g := gName 8) rfl sc__law_text_of.nd (pi_tup (pv 6)) (blkOk_by (own := [("_law_one_here", 8)]) (N := ["_law_drawn_here", "_law_begin_here", "_law_found", "_law_instruction", "_law_words", "_law_part", "_law_some", "_law_facing", "_law_one_here"]) (sc := defScope s__law_text_of) (by decide +kernel)) (fun _ _ _ _ _ => pg_name (i := 8) sc__law_text_of.nd rfl (Or.inl rfl)) (fun _ _ _ _ _ => pts_nil) (fun _ _ _ _ _ => (pe_callTy call_strA (by rfl) T.b_str boot_str (pa_cons (pv 8) pa_nil)))))))))
      (pss_one (ps_expr (pe_bm PySem.F.plainAttrs_list PySem.F.slot_list_append PySem.F.type_list_append mt_append (pv 2) (pa_cons (pe_bm PySem.F.plainAttrs_str PySem.F.slot_str_join PySem.F.type_str_join mt_join pe_str (pa_cons (pv 4) pa_nil)) pa_nil)))))))
      (pss_one (ps_ret (pv 2)))))), ?_⟩
    obtain ⟨ra, ta, ia, xi, h1, h2, ok, h4, h5, ⟨t1, t2, t3⟩, h7, h8, h9, h10⟩ := id hd
    have ohi := ok.hi
    have owi := ok.wi
    have lw : ∀ {h : Str}, h ∈ [("from" : Str), "north", "east", "south", "west", "island"] → LnT 6 h := fun {h} hm => by
      have : ∀ h ∈ [("from" : Str), "north", "east", "south", "west", "island"], ((tl h).all fun c => decide (c < 0x110000 ∧ c ≠ 10)) = true ∧ (tl h).length ≤ 6 := by decide +kernel
      exact lit_ln (this h hm).1 (this h hm).2
    refine ⟨rfl, _, rfl, da, _, 1, .str sg, rfl, rfl, h1, atI_nat (j := 1) rfl, Evl.sz_of (by simp), fun p1 hp1 => ?_⟩
    have x1 := ex_new (o := .lst [V.str "from", V.str sg]) hp1
    have n1 : NewL K (upd H p1 (.lst [V.str "from", V.str sg])) p1 ([("from" : Str), sg].map PyData.str) := ⟨_, upd_same, .cons (.str _) (.cons (.str _) .nil), tupDs_str _ fun x hx => by
      rcases List.mem_cons.mp hx with e | hx
      · rw [e]
        decide +kernel
      · rw [List.mem_singleton.mp hx]
        exact h4.1⟩
    generalize upd H p1 (.lst [V.str "from", V.str sg]) = H1 at x1 n1 ⊢
    refine ⟨_, rfl, da, _, 2, .ref ta, rfl, rfl, Evl.ex_t x1 h1, atI_nat (j := 2) rfl, ta, rfl, ⟨_, Evl.ex_t x1 h5⟩, fun D hD => ?_⟩
    refine lcD (K := K) (S := []) (g := gName 7) (walk_tup (K := K) (a := ta) (xs := ts.map V.int)) hD (fun _ => True) (fun m ds => ∃ ss : List Str, ds = ss.map PyData.str ∧ wt ss ≤ 6 * m ∧ ∀ s ∈ ss, LnT 6 s) (by simp) (by rw [List.length_map]; omega) (fun _ _ _ => trivial) (fun H' k _ => Evl.ex_t (x1.trans k.ex) h5) trivial ⟨[], rfl, Nat.le_refl _, fun s hs => by cases hs⟩ ?_ ?_
    · rintro m x Ha Hb ds P1 P2 hm ⟨ss, rfl, a1, a2⟩ k1 _ ⟨rfl, hx⟩ c1 c2
      rw [List.getElem?_map, Option.map_eq_some_iff] at hx
      obtain ⟨t, ht, rfl⟩ := hx
      obtain ⟨g1, g2⟩ := t3 t (List.mem_of_getElem? ht)
      refine ⟨rfl, tY ⟨Evl.sz_of (by simp), fun p hp => ?_⟩⟩
      obtain ⟨z, hz, hi, lz, l6⟩ : ∃ z : Str, z ∈ [("from" : Str), "north", "east", "south", "west", "island"] ∧ atI [V.str "north", V.str "east", V.str "south", V.str "west"] t = some (.str z) ∧ (tl z).length ≤ 5 ∧ LnT 6 z := by
        have hv : t = 0 ∨ t = 1 ∨ t = 2 ∨ t = 3 := by omega
        rcases hv with rfl | rfl | rfl | rfl
        · exact ⟨"north", by simp, rfl, by decide +kernel, lw (by simp)⟩
        · exact ⟨"east", by simp, rfl, by decide +kernel, lw (by simp)⟩
        · exact ⟨"south", by simp, rfl, by decide +kernel, lw (by simp)⟩
        · exact ⟨"west", by simp, rfl, by decide +kernel, lw (by simp)⟩
      refine ⟨_, rfl, p, _, _, .str z, rfl, rfl, .of upd_same, hi, c1 _ (.str z) _ (.new hp) trivial (.str _) (by unfold tupOnly tupD; exact lnT_ok l6) ⟨ss ++ [z], by rw [List.map_append]; rfl, wt_one a1 lz, fun s hs => ?_⟩⟩
      rcases List.mem_append.mp hs with h | h
      · exact a2 s h
      · rw [List.mem_singleton.mp h]
        exact l6
    · rintro H2 ds k1 _ nd ⟨ss, rfl, a1, a2⟩ _
      rw [List.length_map] at a1
      have sl : ss.length ≤ wt ss := by
        have : ∀ l : List Str, l.length ≤ wt l := fun l => by
          induction l with
          | nil => exact Nat.le_refl _
          | cons a r ih =>
            unfold wt at ih ⊢
            simp only [List.map_cons, List.sum_cons, List.length_cons]
            omega
        exact this ss
      refine catL (K := K) (n1.ex k1.ex) nd (by simp; omega) fun p3 H3 x3 n3 => ?_
      rw [← List.map_append] at n3
      obtain ⟨xs3, e3, d3, _⟩ := n3
      obtain rfl := dps_str_eq d3
      have wb : wt ([("from" : Str), sg] ++ ss) ≤ 45 := by
        rw [wt_app]
        have e4 : (tl (Str.ofString "from")).length = 4 := by decide +kernel
        have e5 : (tl sg).length ≤ 5 := h4.2.1
        have : wt [("from" : Str), sg] = ((tl (Str.ofString "from")).length + 1) + ((tl sg).length + 1) := by simp [wt]
        omega
      have wl : ∀ w ∈ [("from" : Str), sg] ++ ss, LnT 1000 w := fun w hw => by
        rcases List.mem_append.mp hw with h | h
        · rcases List.mem_cons.mp h with e | h
          · rw [e]
            exact (lw (h := "from") (by simp)).mono (by decide)
          · rw [List.mem_singleton.mp h]
            exact (sgT_ln h4).mono (by decide)
        · exact (a2 w h).mono (by decide)
      refine ⟨_, p3, _, rfl, rfl, .inl (.of e3), join_sz (by omega), ?_⟩
      have bg := join_ln wb wl
      generalize Txt.join (Str.ofString " ") ([Str.ofString "from", sg] ++ ss) = bgs at bg ⊢
      have x13 := (x1.trans k1.ex).trans x3
      -- found
      refine ⟨Evl.sz_of (by simp), fun p4 hp4 => ⟨_, rfl, da, _, 0, .ref ra, rfl, rfl, Evl.ex_t (x13.trans (ex_new hp4)) h1, atI_nat (j := 0) rfl, ra, _, rfl, .inr (Evl.ex_t (x13.trans (ex_new hp4)) h2), fun p5 hp5 => ?_⟩⟩
      have okR := rows_ok ok
      have n4 : NewL K (upd (upd H3 p4 (.lst [V.str "island"])) p5 (.lst (rows.map V.str))) p4 ([("island" : Str)].map PyData.str) := ⟨_, ex_new hp5 _ _ upd_same, .cons (.str _) .nil, by decide +kernel⟩
      have n5 : NewL K (upd (upd H3 p4 (.lst [V.str "island"])) p5 (.lst (rows.map V.str))) p5 (rows.map PyData.str) := ⟨_, upd_same, dps_str rows, tupDs_str _ okR⟩
      have x15 := (x13.trans (ex_new (o := .lst [V.str "island"]) hp4)).trans (ex_new (o := .lst (rows.map V.str)) hp5)
      refine catL (K := K) n4 n5 (by simp; omega) fun p6 H6 x6 n6 => ⟨_, rfl, Evl.sz_of (by simp), fun p7 hp7 => ?_⟩
      have n7 : NewL K (upd H6 p7 (.lst [V.str bgs])) p7 ([bgs].map PyData.str) := ⟨_, upd_same, .cons (.str _) .nil, tupDs_str _ fun x hx => by rw [List.mem_singleton.mp hx]; exact lnT_ok bg⟩
      have x17 := (x15.trans x6).trans (ex_new (o := .lst [V.str bgs]) hp7)
      obtain ⟨ys, e8⟩ : ∃ ys, ys = [("island" : Str)].map PyData.str ++ rows.map PyData.str ++ [bgs].map PyData.str := ⟨_, rfl⟩
      have ecatd : [("island" : Str)].map PyData.str ++ rows.map PyData.str ++ [bgs].map PyData.str = ([("island" : Str)] ++ rows ++ [bgs]).map PyData.str := by simp
      -- the new list stands nowhere yet
      have hn0 : ∀ {p : Addr}, (upd H6 p7 (.lst [V.str bgs])) p = none → H p = none := fun h => Evl.fresh_back x17 h
      obtain ⟨xs6, f1, f2, f3⟩ := n6.ex (ex_new (o := .lst [V.str bgs]) hp7)
      obtain ⟨xs7, g1, g2, g3⟩ := n7
      refine ⟨p6, p7, xs6, xs7, rfl, rfl, f1, g1, Evl.sz_of (by rw [dps_len f2, dps_len g2]; simp; omega), fun pf hpf => ?_⟩
      have epf : xs6 ++ xs7 = ([("island" : Str)] ++ rows ++ [bgs]).map V.str := dps_str_eq (K := K) (H := upd H6 p7 (.lst [V.str bgs])) (by rw [← ecatd]; exact dps_app f2 g2)
      rw [epf]
      have pfH := hn0 hpf
      have x18 := x17.trans (ex_new (o := .lst (([("island" : Str)] ++ rows ++ [bgs]).map V.str)) hpf)
      have fp : upd (upd H6 p7 (.lst [V.str bgs])) pf (.lst (([("island" : Str)] ++ rows ++ [bgs]).map V.str)) pf = some (.lst (([("island" : Str)] ++ rows ++ [bgs]).map V.str)) := upd_same
      generalize upd (upd H6 p7 (.lst [V.str bgs])) pf (.lst (([("island" : Str)] ++ rows ++ [bgs]).map V.str)) = H8 at x18 fp ⊢
      have ln0 : ∀ l ∈ [("island" : Str)] ++ rows ++ [bgs], LnT 45 l := fun l hl => by
        rcases List.mem_append.mp hl with h | h
        · rcases List.mem_append.mp h with h | h
          · rw [List.mem_singleton.mp h]
            exact (lw (h := "island") (by simp)).mono (by decide)
          · exact ⟨fun c hc => gsn_ln c (ok.sg l h c hc), by rw [ok.len l h]; omega⟩
        · rw [List.mem_singleton.mp h]
          exact bg
      refine ⟨_, rfl, da, _, 3, .ref ia, rfl, rfl, Evl.ex_t x18 h1, atI_nat (j := 3) rfl, ia, rfl, ⟨_, Evl.ex_t x18 h7⟩, ?_⟩
      have xil : xi.length = iss.length := by rw [dps_len h8, List.length_map]
      refine for_it (walk_tup (K := K) (a := ia) (xs := xi)) (fun n σ H' => ∃ (ls : List Str) (o3 o4 o5 o6 : Option V), σ = [some (.ref da), some (.str bgs), some (.ref pf), o3, o4, o5, o6, none, none] ∧ H' pf = some (.lst (ls.map V.str)) ∧ ls ≠ [] ∧ ls.length ≤ 6 + n ∧ (∀ l ∈ ls, LnT 45 l) ∧ Ex H H')
        ⟨_, none, none, none, none, rfl, fp, by simp, by simp; omega, ln0, x18⟩ (fun n σ H' _ hP => ?_) ?_ ?_
      · obtain ⟨_, _, _, _, _, _, _, _, _, _, x⟩ := hP
        exact Evl.ex_t x h7
      · rintro n x σ G0 G hn ⟨ls, o3, o4, o5, o6, rfl, hpf2, lne, lle, lln, y1⟩ ⟨rfl, hx⟩
        obtain ⟨d, hd2⟩ : ∃ d, iss[n]? = some d := ⟨_, List.getElem?_eq_getElem (by omega)⟩
        obtain ⟨x', ex', dx⟩ := dps_at h8 (show (iss.map PyData.tuple)[n]? = some (.tuple d) by rw [List.getElem?_map, hd2]; rfl)
        rw [hx] at ex'
        cases ex'
        have igd := h9 d (List.mem_of_getElem? hd2)
        obtain ⟨cost, parts⟩ := insG_cost igd
        cases dx with
        | tup s1 s2 =>
          rename_i ii xs
          refine ⟨Evl.sz_of (by simp), fun pw hpw => ?_⟩
          have y2 := y1.trans (ex_new (o := .lst []) hpw)
          have nw : NewL K (upd G pw (.lst [])) pw (([] : List Str).map PyData.str) := ⟨[], upd_same, .nil, rfl⟩
          have pf2 := ex_new (o := .lst []) hpw _ _ hpf2
          generalize upd G pw (.lst []) = G2 at y2 nw pf2 ⊢
          refine ⟨_, rfl, ii, rfl, ⟨_, Evl.ex_t y2 s1⟩, ?_⟩
          have xsl := dps_len s2
          refine for_it (walk_tup (K := K) (a := ii) (xs := xs)) (fun m σ H' => ∃ (pw : Addr) (ws : List Str) (o5 o6 : Option V), σ = [some (.ref da), some (.str bgs), some (.ref pf), some (.ref ii), some (.ref pw), o5, o6, none, none] ∧ NewL K H' pw (ws.map PyData.str) ∧ wt ws ≤ ((d.take m).map cst).sum ∧ (∀ z ∈ ws, LnT 6 z) ∧ Ex G2 H')
            ⟨pw, [], _, _, rfl, nw, Nat.zero_le _, (fun z hz => by cases hz), .refl _⟩ (fun n σ H' _ hP => ?_) ?_ ?_
          · obtain ⟨_, _, _, _, _, _, _, _, x⟩ := hP
            exact Evl.ex_t (y2.trans x) s1
          · rintro m x σ G30 G3 hm ⟨pw, ws, o5, o6, rfl, nw, wle, wln, y3⟩ ⟨rfl, hx⟩
            have y23 := y2.trans y3
            obtain ⟨dp, hdp⟩ : ∃ dp, d[m]? = some dp := ⟨_, List.getElem?_eq_getElem (by omega)⟩
            obtain ⟨x', ex', dx⟩ := dps_at s2 hdp
            rw [hx] at ex'
            cases ex'
            have pg := parts dp (List.mem_of_getElem? hdp)
            have tk : ((d.take (m + 1)).map cst).sum = ((d.take m).map cst).sum + cst dp := by
              rw [List.take_add_one, hdp, List.map_append, List.sum_append]
              simp
            refine ⟨fun σ' H' => ∃ (ps : Addr) (vs : List V), σ' = [some (.ref da), some (.str bgs), some (.ref pf), some (.ref ii), some (.ref pw), some x, some (.ref ps), none, none] ∧ SqT K H' ps vs ∧ (vs.map cv).sum ≤ cst dp ∧ (∀ v ∈ vs, PV v) ∧ vs.length ≤ 1000 ∧ Ex G3 H', ?_, ?_⟩
            · rcases pg with ⟨z, rfl, lz⟩ | ⟨i, rfl, i1, i2⟩ | ⟨ts2, rfl, tb⟩
              · cases dx
                refine ⟨_, rfl, _, _, _, _, _, rfl, .ty "tuple", .base (.str _), kit_ty (by decide +kernel), false, rfl, iteF ?_⟩
                exact ⟨_, rfl, Evl.sz_of (by simp), fun p hp => ⟨p, [.str z], rfl, .of upd_same, by simp [cv, cst], fun v hv => by rw [List.mem_singleton.mp hv]; exact .inl ⟨z, rfl, lz⟩, by simp, ex_new hp⟩⟩
              · cases dx
                refine ⟨_, rfl, _, _, _, _, _, rfl, .ty "tuple", .base (.int _), kit_ty (by decide +kernel), false, rfl, iteF ?_⟩
                exact ⟨_, rfl, Evl.sz_of (by simp), fun p hp => ⟨p, [.int i], rfl, .of upd_same, by simp [cv, cst], fun v hv => by rw [List.mem_singleton.mp hv]; exact .inr ⟨i, rfl, i1, i2⟩, by simp, ex_new hp⟩⟩
              · cases dx with
                | tup q1 q2 =>
                  obtain rfl := dps_int_eq q2
                  refine ⟨_, rfl, _, _, _, _, _, rfl, .ty "tuple", ty_sq (Evl.ex_t y23 q1), kit_ty (by decide +kernel), true, rfl, iteT ?_⟩
                  have cs : ∀ l : List Int, ((l.map V.int).map cv).sum = 2 * l.length := fun l => by
                    induction l with
                    | nil => rfl
                    | cons a r ih =>
                      simp only [List.map_cons, List.sum_cons, List.length_cons, ih]
                      show 2 + _ = _
                      omega
                  have ce : cst (intsD ts2) = 2 * ts2.length := by simp [cst, intsD]
                  have cle : cst (intsD ts2) ≤ 45 := by
                    have : cst (intsD ts2) ≤ (d.map cst).sum := List.single_le_sum_nat (List.mem_map.mpr ⟨_, List.mem_of_getElem? hdp, rfl⟩)
                    omega
                  refine ⟨_, rfl, _, ts2.map V.int, rfl, Evl.ex_t y23 q1, by rw [cs, ce]; exact Nat.le_refl _, fun v hv => ?_, by rw [List.length_map]; omega, .refl _⟩
                  obtain ⟨t, ht, rfl⟩ := List.mem_map.mp hv
                  exact .inr ⟨t, rfl, (tb t ht).1, (tb t ht).2⟩
            · rintro σ' G4 ⟨ps, vs, rfl, sps, vle, vpv, vlen, y4⟩
              refine ⟨_, rfl, _, rfl, ps, rfl, ⟨_, sps⟩, fun D hD => ?_⟩
              refine lcD (K := K) (S := []) (g := gName 8) (walk_tup (K := K) (a := ps) (xs := vs)) hD (fun _ => True) (fun m ds => ∃ ss : List Str, ds = ss.map PyData.str ∧ wt ss ≤ ((vs.take m).map cv).sum ∧ ∀ s ∈ ss, LnT 6 s) (by simp) (by omega) (fun _ _ _ => trivial) (fun H' k _ => Evl.ex_t k.ex sps) trivial ⟨[], rfl, Nat.zero_le _, fun s hs => by cases hs⟩ ?_ ?_
              · rintro m2 x2 Ha Hb ds P1 P2 hm2 ⟨ss, rfl, a1, a2⟩ k1 _ ⟨rfl, hx2⟩ c1 c2
                have pv := vpv x2 (List.mem_of_getElem? hx2)
                have tk2 : ((vs.take (m2 + 1)).map cv).sum = ((vs.take m2).map cv).sum + cv x2 := by
                  rw [List.take_add_one, hx2, List.map_append, List.sum_append]
                  simp
                have fin : ∀ (z : Str), LnT 6 z → (tl z).length + 1 ≤ cv x2 → P1 (.str z) Hb := fun z lz hz => c1 _ (.str z) _ (.refl _ _) trivial (.str _) (by unfold tupOnly tupD; exact lnT_ok lz) ⟨ss ++ [z], by rw [List.map_append]; rfl, by
                  rw [wt_app, tk2]
                  have : wt [z] = (tl z).length + 1 := by simp [wt]
                  omega, fun s hs => by
                  rcases List.mem_append.mp hs with h | h
                  · exact a2 s h
                  · rw [List.mem_singleton.mp h]
                    exact lz⟩
                rcases pv with ⟨z, rfl, lz⟩ | ⟨i, rfl, i1, i2⟩
                · exact ⟨rfl, tY ⟨_, rfl, .inl ⟨z, rfl, fin z lz (Nat.le_refl _)⟩⟩⟩
                · obtain ⟨w1, w2, w3⟩ := int_wd4 i1 i2
                  exact ⟨rfl, tY ⟨_, rfl, .inr ⟨i, rfl, w3, fin _ w1 (by rw [w2]; exact Nat.le_refl _)⟩⟩⟩
              · rintro G5 ds k1 _ nd ⟨ss, rfl, a1, a2⟩ _
                rw [List.take_length] at a1
                have wl := wt_len ws
                have sl := wt_len ss
                have cle : ((d.take (m + 1)).map cst).sum ≤ 45 := Nat.le_trans (sum_take_le cst d (m + 1)) cost
                refine catL (K := K) (nw.ex (y4.trans k1.ex)) nd (by rw [List.length_map, List.length_map]; omega) fun p9 G9 y9 n9 => ?_
                rw [← List.map_append] at n9
                refine ⟨p9, ws ++ ss, _, _, rfl, n9, by rw [wt_app, tk]; omega, fun z hz => ?_, ((y3.trans y4).trans k1.ex).trans y9⟩
                rcases List.mem_append.mp hz with h | h
                · exact wln z h
                · exact a2 z h
          · rintro σ G3 ⟨pw, ws, o5, o6, rfl, nw, wle, wln, y3⟩
            have wle2 : wt ws ≤ 45 := Nat.le_trans wle (Nat.le_trans (sum_take_le cst d _) cost)
            obtain ⟨xw, w1, w2, _⟩ := nw
            obtain rfl := dps_str_eq w2
            have pf3 := y3 _ _ pf2
            refine ⟨_, rfl, .inl ⟨rfl, _, .of pf3⟩, rfl, _, rfl, _, pw, ws, rfl, rfl, .inl (.of w1), join_sz (by omega), ?_⟩
            have jl := join_ln wle2 fun z hz => (wln z hz).mono (by decide)
            refine ⟨pf, _, .str (Txt.join " " ws), rfl, rfl, pf3, Evl.sz_lt (by rw [List.length_map]; omega), ls ++ [Txt.join " " ws], _, _, _, _, rfl, by rw [List.map_append]; exact upd_same, by simp, by rw [List.length_append]; simp; omega, fun l hl => ?_, Evl.Ex.mut (y2.trans y3) pfH⟩
            rcases List.mem_append.mp hl with h | h
            · exact lln l h
            · rw [List.mem_singleton.mp h]
              exact jl
      · rintro σ G ⟨ls, o3, o4, o5, o6, rfl, hpf2, lne, lle, lln, y1⟩
        exact ⟨_, rfl, q pf G ls y1 hpf2 lne (by omega) lln⟩
end
end Om
end PartC11
section PartC12
set_option Elab.async false
set_option linter.all false
set_option maxRecDepth 100000
set_option maxHeartbeats 400000
namespace Om
open PySem PySem.Spec PyProof.Rows L2 He TL
theorem spl_wt : ∀ (acc l : List Nat), ((spl [32] 0 acc l).map fun p => p.length + 1).sum = acc.length + l.length + 1
  | acc, [] => by
    rw [spl_nil]
    simp
  | acc, c :: r => by
    by_cases hp : pre [32] (c :: r) = true
    · rw [spl_hit hp]
      have := spl_wt [] r
      simp only [List.map_cons, List.sum_cons, List.length_cons, List.length_nil] at this ⊢
      show acc.length + 1 + ((spl [32] 0 [] r).map fun p => p.length + 1).sum = _
      omega
    · rw [spl_miss (by simpa using hp)]
      have := spl_wt (acc ++ [c]) r
      rw [this]
      simp
      omega
theorem split_wt (z : Str) : wt (Txt.split z " ") = (tl z).length + 1 := by
  have e1 : tl (Str.ofString " ") = [32] := by decide +kernel
  have e := split_spl z (Str.ofString " ") (by rw [e1]; simp) (kind_ok (by decide +kernel))
  rw [e1] at e
  have h := spl_wt [] (tl z)
  rw [← e, List.map_map] at h
  unfold wt
  have : ((Txt.split z " ").map fun z => (tl z).length + 1) = (Txt.split z " ").map ((fun p : List Nat => p.length + 1) ∘ tl) := rfl
  rw [this]
  refine h.trans ?_
  simp
/-- a row of words in work -/
def RowG (k : Nat) (ws : List Str) : Prop := ws ≠ [] ∧ wt ws ≤ 46 + 7 * k ∧ ∀ w ∈ ws, LnT 100 w
theorem RowG.mono {k : Nat} {ws : List Str} (h : RowG k ws) : RowG (k + 1) ws := ⟨h.1, by have := h.2.1; omega, h.2.2⟩
def RXl (H0 H : Hp) (D po : Addr) (las : List Addr) (k : Nat) : Prop := H D = some (.lst (las.map V.ref)) ∧ las ≠ [] ∧ las.length ≤ 10 + k ∧ H0 D = none ∧ po ∉ las ∧ ∀ a ∈ las, H0 a = none ∧ ∃ ws, H a = some (.lst (ws.map V.str)) ∧ RowG k ws
theorem row_away {H : Hp} {ha la a : Addr} {ws : List Str} (hx : HX H ha la) (e : H a = some (.lst (ws.map V.str))) (ne : ws ≠ []) : a ∉ [ha, la] := by
  obtain ⟨s, c, cs, h1, h2, _⟩ := hx
  obtain ⟨z, r, rfl⟩ : ∃ z r, ws = z :: r := by
    cases ws with
    | nil => exact absurd rfl ne
    | cons z r => exact ⟨z, r, rfl⟩
  intro hm
  rcases List.mem_cons.mp hm with q | hm
  · rw [q, h1] at e
    cases e
  · rw [List.mem_singleton.mp hm, h2] at e
    injection e with e
    injection e with e
    cases cs with
    | nil => cases e
    | cons a r => cases e
theorem RXl.awayD {H0 H : Hp} {D po ha la : Addr} {las : List Addr} {k : Nat} (h : RXl H0 H D po las k) (hx : HX H ha la) : D ∉ [ha, la] := by
  obtain ⟨e, ne, _⟩ := h
  obtain ⟨s, c, cs, h1, h2, _⟩ := hx
  obtain ⟨z, r, rfl⟩ : ∃ z r, las = z :: r := by
    cases las with
    | nil => exact absurd rfl ne
    | cons z r => exact ⟨z, r, rfl⟩
  intro hm
  rcases List.mem_cons.mp hm with q | hm
  · rw [q, h1] at e
    cases e
  · rw [List.mem_singleton.mp hm, h2] at e
    injection e with e
    injection e with e
    cases cs with
    | nil => cases e
    | cons a r => cases e
theorem RXl.ne {H0 H : Hp} {D po : Addr} {las : List Addr} {k : Nat} (h : RXl H0 H D po las k) {a : Addr} (ha : a ∈ las) : a ≠ D := by
  obtain ⟨e, ne, _, _, _, r⟩ := h
  obtain ⟨_, ws, ew, wn, _⟩ := r a ha
  intro q
  rw [q, e] at ew
  injection ew with ew
  injection ew with ew
  cases las with
  | nil => exact ne rfl
  | cons x xs =>
    cases ws with
    | nil => exact wn rfl
    | cons y ys => cases ew
theorem RXl.ky {H0 H H' : Hp} {D po ha la : Addr} {las : List Addr} {k : Nat} (h : RXl H0 H D po las k) (hx : HX H ha la) (y : Ky [ha, la] H H') : RXl H0 H' D po las k := by
  have hD := h.awayD hx
  obtain ⟨e, ne, l, n, p, r⟩ := h
  refine ⟨y.1 D _ hD e, ne, l, n, p, fun a ha' => ?_⟩
  obtain ⟨n0, ws, ew, g⟩ := r a ha'
  exact ⟨n0, ws, y.1 a _ (row_away hx ew g.1) ew, g⟩
theorem RXl.ex {H0 H H' : Hp} {D po : Addr} {las : List Addr} {k : Nat} (h : RXl H0 H D po las k) (y : Ex H H') : RXl H0 H' D po las k := by
  obtain ⟨e, ne, l, n, p, r⟩ := h
  refine ⟨y _ _ e, ne, l, n, p, fun a ha' => ?_⟩
  obtain ⟨n0, ws, ew, g⟩ := r a ha'
  exact ⟨n0, ws, y _ _ ew, g⟩
theorem RXl.row {H0 H : Hp} {D po a : Addr} {las : List Addr} {k : Nat} {ws' : List Str} (h : RXl H0 H D po las k) (ha : a ∈ las) (g : RowG (k + 1) ws') : RXl H0 (upd H a (.lst (ws'.map V.str))) D po las (k + 1) := by
  have hne := h.ne ha
  obtain ⟨e, ne, l, n, p, r⟩ := h
  refine ⟨by rw [upd_ne hne.symm]; exact e, ne, by omega, n, p, fun b hb => ?_⟩
  obtain ⟨n0, ws, ew, gw⟩ := r b hb
  by_cases q : b = a
  · rw [q] at n0 ⊢
    exact ⟨n0, ws', upd_same, g⟩
  · exact ⟨n0, ws, by rw [upd_ne q]; exact ew, gw.mono⟩
theorem RXl.lst {H0 H : Hp} {D po : Addr} {las las' : List Addr} {k : Nat} (h : RXl H0 H D po las k) (ne' : las' ≠ []) (lz : las'.length ≤ 10 + (k + 1)) (hm : ∀ a ∈ las', a ∈ las ∨ (H0 a = none ∧ a ≠ D ∧ a ≠ po ∧ ∃ ws, H a = some (.lst (ws.map V.str)) ∧ RowG k ws)) :
    RXl H0 (upd H D (.lst (las'.map V.ref))) D po las' (k + 1) := by
  have hne : ∀ {a}, a ∈ las → a ≠ D := fun h' => h.ne h'
  obtain ⟨e, ne, l, n, p, r⟩ := h
  refine ⟨upd_same, ne', lz, n, fun hp => ?_, fun b hb => ?_⟩
  · rcases hm po hp with h' | ⟨_, _, h', _⟩
    · exact p h'
    · exact h' rfl
  · rcases hm b hb with h' | ⟨n0, d, _, ws, ew, g⟩
    · obtain ⟨n0, ws, ew, g⟩ := r b h'
      exact ⟨n0, ws, by rw [upd_ne (hne h')]; exact ew, g.mono⟩
    · exact ⟨n0, ws, by rw [upd_ne d]; exact ew, g.mono⟩
def rJoinK (K : Frg) : V → List V → Hp → VK → Prop := fun x xs H Q => ∃ a p, ∃ ys : List Str, x = .str a ∧ xs = [.ref p] ∧ (SqL K H p (ys.map V.str) ∨ SqT K H p (ys.map V.str)) ∧ (ys.map (·.length)).sum + ys.length * a.length ≤ 16777216 ∧ Q (.str (Txt.join a ys)) H
def odds : List Str := ["island", "from", ".A", "A.", "~", "north", "0", "3", "7", "01", "100", "turn", "near", "shore", "", "search"]
theorem odds_ok : ∀ z ∈ odds, LnT 6 z := by
  have : ∀ z ∈ odds, ((tl z).all fun c => decide (c < 0x110000 ∧ c ≠ 10)) = true ∧ (tl z).length ≤ 6 := by decide +kernel
  exact fun z hz => lit_ln (this z hz).1 (this z hz).2
theorem map_erase {α β : Type} (f : α → β) : ∀ (l : List α) (j : Nat), (l.map f).eraseIdx j = (l.eraseIdx j).map f
  | [], _ => rfl
  | a :: r, 0 => rfl
  | a :: r, j + 1 => by
    show f a :: (r.map f).eraseIdx j = f a :: (r.eraseIdx j).map f
    rw [map_erase f r j]
theorem seq_ix {j n : Nat} {i : Int} (e : (j : Int) = i) (h : j < n) : seqIndex? i n = some j := by
  subst e
  have h1 : ¬ ((j : Int) < 0) := by omega
  have h2 : (decide (0 ≤ (j : Int)) && decide ((j : Int) < (n : Int))) = true := by
    rw [decide_eq_true (show (0 : Int) ≤ j by omega), decide_eq_true (show (j : Int) < n by omega)]
    rfl
  unfold seqIndex?
  rw [if_neg h1]
  show (if (decide (0 ≤ (j : Int)) && decide ((j : Int) < (n : Int))) = true then some (j : Int).toNat else none) = _
  rw [h2, if_pos rfl]
  simp
theorem wt_set : ∀ (ws : List Str) (j : Nat) (z : Str), (tl z).length ≤ 6 → wt (ws.set j z) ≤ wt ws + 7
  | [], _, _, _ => by simp [wt]
  | a :: r, 0, z, h => by
    unfold wt
    simp only [List.set_cons_zero, List.map_cons, List.sum_cons]
    omega
  | a :: r, j + 1, z, h => by
    have := wt_set r j z h
    unfold wt at this ⊢
    simp only [List.set_cons_succ, List.map_cons, List.sum_cons]
    omega
theorem wt_erase : ∀ (ws : List Str) (j : Nat), wt (ws.eraseIdx j) ≤ wt ws
  | [], _ => by simp [wt]
  | a :: r, 0 => by
    unfold wt
    simp only [List.eraseIdx_cons_zero, List.map_cons, List.sum_cons]
    omega
  | a :: r, j + 1 => by
    have := wt_erase r j
    unfold wt at this ⊢
    simp only [List.eraseIdx_cons_succ, List.map_cons, List.sum_cons]
    omega
theorem rowG_set {n j : Nat} {ws : List Str} {z : Str} (h : RowG n ws) (lz : LnT 6 z) : RowG (n + 1) (ws.set j z) := by
  refine ⟨fun e => h.1 (by simpa using e), ?_, fun w hw => ?_⟩
  · have := wt_set ws j z lz.2
    have := h.2.1
    omega
  · rcases List.mem_or_eq_of_mem_set hw with q | q
    · exact h.2.2 w q
    · rw [q]
      exact lz.mono (by decide)
theorem rowG_ins {n j : Nat} {ws : List Str} {z : Str} (h : RowG n ws) (lz : LnT 6 z) : RowG (n + 1) (ws.take j ++ [z] ++ ws.drop j) := by
  refine ⟨by simp, ?_, fun w hw => ?_⟩
  · rw [wt_app, wt_app]
    have e : wt (ws.take j) + wt (ws.drop j) = wt ws := by rw [← wt_app, List.take_append_drop]
    have e1 : wt [z] = (tl z).length + 1 := by simp [wt]
    have := h.2.1
    have := lz.2
    omega
  · rcases List.mem_append.mp hw with q | q
    · rcases List.mem_append.mp q with q | q
      · exact h.2.2 w (List.mem_of_mem_take q)
      · rw [List.mem_singleton.mp q]
        exact lz.mono (by decide)
    · exact h.2.2 w (List.mem_of_mem_drop q)
theorem rowG_app {n : Nat} {ws : List Str} {z : Str} (h : RowG n ws) (lz : LnT 6 z) : RowG (n + 1) (ws ++ [z]) := by
  refine ⟨by simp, ?_, fun w hw => ?_⟩
  · rw [wt_app]
    have e1 : wt [z] = (tl z).length + 1 := by simp [wt]
    have := h.2.1
    have := lz.2
    omega
  · rcases List.mem_append.mp hw with q | q
    · exact h.2.2 w q
    · rw [List.mem_singleton.mp q]
      exact lz.mono (by decide)
theorem rowG_erase {n j : Nat} {ws : List Str} (h : RowG n ws) (h2 : 1 < ws.length) (hj : j < ws.length) : RowG (n + 1) (ws.eraseIdx j) := by
  refine ⟨fun e => ?_, ?_, fun w hw => h.2.2 w (List.mem_of_mem_eraseIdx hw)⟩
  · have := List.length_eraseIdx_of_lt hj
    rw [e] at this
    simp at this
    omega
  · have := wt_erase ws j
    have := h.2.1
    omega
section
variable {w : World} {K : Frg} {mg : Str → Option Value} {base : Heap}
/-- _law_bent -/
def sp__law_bent (K : Frg) : Sp := fun vs H Q _ => ∃ (ha la pl : Addr) (ts : List Str), vs = [.ref ha, .ref pl] ∧ HX H ha la ∧ H pl = some (.lst (ts.map V.str)) ∧ ts ≠ [] ∧ ts.length ≤ 10 ∧ (∀ l ∈ ts, LnT 45 l) ∧
  ∀ (p : Addr) (H' : Hp) (ls : List Str), H' p = some (.lst (ls.map V.str)) → ls ≠ [] → ls.length ≤ 12 → (∀ l ∈ ls, LnT 60 l) → p ∉ [ha, la] → Ky [ha, la] H H' → HX H' ha la → Q (.ref p) H'
theorem sc__law_bent : FnScope ["_law_h", "_law_lines", "_law_rows_here", "_law_odd", "_law_change", "_law_at", "_law_kind", "_law_spot", "_law_line_here", "_law_row"] ["_law_h", "_law_lines"] (defScope s__law_bent) := ⟨rfl, rfl, rfl, by decide +kernel, rfl, by decide +kernel, by decide +kernel⟩
theorem ok__law_bent (T : Tx w K mg) : FnOk prg w K mg base CX0 2 (ga K "_law_bent") (fdOf K (ga K "_law_bent")) ["_law_h", "_law_lines"] (sp__law_bent K) := by
  refine T.f__law_bent.ok sc__law_bent (fun vs H Q E h => ?_) (fun cdv A outer s H vs Q E hr h => ?_)
  · obtain ⟨ha, la, pl, ts, rfl, _⟩ := h
    rfl
  · obtain ⟨ha, la, pl, ts, rfl, hx, hpl, tne, tle, tln, q⟩ := h
    refine ⟨_, PSs.nox (pss_cons (ps_setLc (i := 2) (own := [("_law_line_here", 8)]) (g := gName 8) rfl sc__law_bent.nd rfl rfl (sw_true rfl rfl rfl (by decide +kernel)) (pi_list (pv 1)) (blkOk_by (own := [("_law_line_here", 8)]) (N := ["_law_h", "_law_lines", "_law_rows_here", "_law_odd", "_law_change", "_law_at", "_law_kind", "_law_spot", "_law_line_here", "_law_row"]) (sc := defScope s__law_bent) (by decide +kernel)) (fun _ _ _ _ _ => pg_name (i := 8) sc__law_bent.nd rfl (Or.inl rfl)) (fun _ _ _ _ _ => pts_nil) (fun _ _ _ _ _ => (pe_bmK (K := K) rfl PySem.F.plainAttrs_str PySem.F.slot_str_split PySem.F.type_str_split mt_split (pv 8) (pa_cons pe_str pa_nil))))
      (pss_cons (ps_set (i := 3) sc__law_bent.nd rfl (Or.inl rfl) (pe_lst (pa_cons pe_str (pa_cons pe_str (pa_cons pe_str (pa_cons pe_str (pa_cons pe_str (pa_cons pe_str (pa_cons pe_str (pa_cons pe_str (pa_cons pe_str (pa_cons pe_str (pa_cons pe_str (pa_cons pe_str (pa_cons pe_str (pa_cons pe_str pa_nil))))))))))))))))
      (pss_cons (ps_set (i := 3) sc__law_bent.nd rfl (Or.inl rfl) (pe_op op_cat (pv 3) (pe_lst (pa_cons pe_str (pa_cons pe_str pa_nil)))))
      (pss_cons (ps_for PassesOwn.never rfl (pi_range1 (by rfl) T.b_range (pa_cons (pe_call (ok__law_next T) (hr.mono (by decide)) (by rfl) T.g__law_next T.f__law_next.kp T.p__law_next .nil pass0 (pa_cons (pv 0) (pa_cons pe_int pa_nil))) pa_nil)) (pg_name (i := 4) sc__law_bent.nd rfl (Or.inl rfl)) (pss_cons (ps_par (i := 5) (j := 6) (by rfl) sc__law_bent.nd rfl rfl (by decide) rfl rfl (pa_cons (pe_call (ok__law_next T) (hr.mono (by decide)) (by rfl) T.g__law_next T.f__law_next.kp T.p__law_next .nil pass0 (pa_cons (pv 0) (pa_cons (pe_callB call_len_seq (by rfl) T.b_len PySem.boot_len (pa_cons (pv 2) pa_nil)) pa_nil))) (pa_cons (pe_call (ok__law_next T) (hr.mono (by decide)) (by rfl) T.g__law_next T.f__law_next.kp T.p__law_next .nil pass0 (pa_cons (pv 0) (pa_cons pe_int pa_nil))) pa_nil)) (by rfl))
      (pss_cons (ps_set (i := 7) sc__law_bent.nd rfl (Or.inl rfl) (pe_call (ok__law_next T) (hr.mono (by decide)) (by rfl) T.g__law_next T.f__law_next.kp T.p__law_next .nil pass0 (pa_cons (pv 0) (pa_cons (pe_callB call_len_seq (by rfl) T.b_len PySem.boot_len (pa_cons (pe_ix ix_list (pv 2) (pv 5) (fun _ _ => rfl)) pa_nil)) pa_nil))))
      (pss_one (ps_if (pt_cmpR op_eq (pv 6) pe_int (nomark _)) (pss_one (ps_expr (pe_bm PySem.F.plainAttrs_list PySem.F.slot_list_insert PySem.F.type_list_insert mt_insert (pv 2) (pa_cons (pv 5) (pa_cons (pe_callTy call_list_of (by rfl) T.b_list boot_list (pa_cons (pe_ix ix_list (pv 2) (pe_call (ok__law_next T) (hr.mono (by decide)) (by rfl) T.g__law_next T.f__law_next.kp T.p__law_next .nil pass0 (pa_cons (pv 0) (pa_cons (pe_callB call_len_seq (by rfl) T.b_len PySem.boot_len (pa_cons (pv 2) pa_nil)) pa_nil))) (fun _ _ => rfl)) pa_nil)) pa_nil))))) (pss_one (ps_if (PW.pt (pw_and (pt_cmpR op_eq (pv 6) pe_int (nomark _)) (pw_and1 (pt_cmpR op_gt (pe_callB call_len_seq (by rfl) T.b_len PySem.boot_len (pa_cons (pv 2) pa_nil)) pe_int (nomark _))))) (pss_one (ps_expr (pe_bm PySem.F.plainAttrs_list PySem.F.slot_list_pop PySem.F.type_list_pop mt_popAt (pv 2) (pa_cons (pv 5) pa_nil)))) (pss_one (ps_if (pt_cmpR op_lt (pv 6) pe_int (nomark _)) (pss_one (ps_asg (pe_ix ix_list (pv 3) (pe_call (ok__law_next T) (hr.mono (by decide)) (by rfl) T.g__law_next T.f__law_next.kp T.p__law_next .nil pass0 (pa_cons (pv 0) (pa_cons pe_int pa_nil))) (fun _ _ => rfl)) (pg_sub (pe_ix ix_list (pv 2) (pv 5) (fun _ _ => rfl)) (pv 7) set_list))) (pss_one (ps_if (pt_cmpR op_eq (pv 6) pe_int (nomark _)) (pss_one (ps_expr (pe_bm PySem.F.plainAttrs_list PySem.F.slot_list_insert PySem.F.type_list_insert mt_insert (pe_ix ix_list (pv 2) (pv 5) (fun _ _ => rfl)) (pa_cons (pv 7) (pa_cons (pe_ix ix_list (pv 3) (pe_call (ok__law_next T) (hr.mono (by decide)) (by rfl) T.g__law_next T.f__law_next.kp T.p__law_next .nil pass0 (pa_cons (pv 0) (pa_cons pe_int pa_nil))) (fun _ _ => rfl)) pa_nil))))) (pss_one (ps_if (PW.pt (pw_and (pt_cmpR op_eq (pv 6) pe_int (nomark _)) (pw_and1 (pt_cmpR op_gt (pe_callB call_len_seq (by rfl) T.b_len PySem.boot_len (pa_cons (pe_ix ix_list (pv 2) (pv 5) (fun _ _ => rfl)) pa_nil)) pe_int (nomark _))))) (pss_one (ps_expr (pe_bm PySem.F.plainAttrs_list PySem.F.slot_list_pop PySem.F.type_list_pop mt_popAt (pe_ix ix_list (pv 2) (pv 5) (fun _ _ => rfl)) (pa_cons (pv 7) pa_nil)))) (pss_one (ps_expr (pe_bm PySem.F.plainAttrs_list PySem.F.slot_list_append PySem.F.type_list_append mt_append (pe_ix ix_list (pv 2) (pv 5) (fun _ _ => rfl)) (pa_cons (pe_ix ix_list (pv 3) (pe_call (ok__law_next T) (hr.mono (by decide)) (by rfl) T.g__law_next T.f__law_next.kp T.p__law_next .nil pass0 (pa_cons (pv 0) (pa_cons pe_int pa_nil))) (fun _ _ => rfl)) pa_nil)))))))))))))))))
      (pss_one (ps_ret (pe_lc (own := [("_law_row", 9)]) (g := gName 9) rfl sc__law_bent.nd (pi_list (pv 2)) (blkOk_by (own := [("_law_row", 9)]) (N := ["_law_h", "_law_lines", "_law_rows_here", "_law_odd", "_law_change", "_law_at", "_law_kind", "_law_spot", "_law_line_here", "_law_row"]) (sc := defScope s__law_bent) (by decide +kernel)) (fun _ _ _ _ _ => pg_name (i := 9) sc__law_bent.nd rfl (Or.inl rfl)) (fun _ _ _ _ _ => pts_nil) (fun _ _ _ _ _ => (pe_bmK (K := K) rfl PySem.F.plainAttrs_str PySem.F.slot_str_join PySem.F.type_str_join (kMt (K := K) (r := rJoinK) rfl mt_join) pe_str (pa_cons (pv 9) pa_nil)))))))))), ?_⟩
    have hlen0 : ∀ l : Str, LnT 45 l → l.length + 2 ≤ sizeLine := fun l h => Nat.le_trans (Nat.add_le_add_right (show l.length ≤ 100000 by rw [len_tl]; have := h.2; omega) 2) (by decide)
    refine ⟨_, rfl, pl, rfl, ⟨_, .of hpl⟩, fun D hD => ?_⟩
    refine lc_it (walk_list (K := K) (a := pl) (xs := ts.map V.str)) (fun i H' => Ex H H' ∧ ∃ las : List Addr, las.length = i ∧ H' D = some (.lst (las.map V.ref)) ∧ ∀ a ∈ las, H a = none ∧ a ≠ D ∧ ∃ ws, H' a = some (.lst (ws.map V.str)) ∧ RowG 0 ws) ⟨ex_new hD, [], rfl, upd_same, fun a h => by cases h⟩ (fun i H' _ q => .of (q.1 _ _ hpl)) ?_ ?_
    · rintro i x Hi H2 hi ⟨xi, las, hl, hDi, hrows⟩ ⟨rfl, hx⟩
      rw [List.getElem?_map, Option.map_eq_some_iff] at hx
      obtain ⟨l, hl1, rfl⟩ := hx
      have hln := tln l (List.mem_of_getElem? hl1)
      obtain ⟨w1, w2, w3⟩ := words_bd hln
      refine ⟨rfl, tY ?_⟩
      refine ⟨_, rfl, rfl, l, _, rfl, rfl, by decide +kernel, hlen0 l hln, fun wa hwa => ?_⟩
      have x3 : Ex H2 (upd H2 wa (.lst ((Txt.split l " ").map V.str))) := ex_new hwa
      have hw3 : upd H2 wa (.lst ((Txt.split l " ").map V.str)) wa = some (.lst ((Txt.split l " ").map V.str)) := upd_same
      have hwD : wa ≠ D := fun e => by rw [e, hDi] at hwa; cases hwa
      have hw0 := Evl.fresh_back xi hwa
      generalize upd H2 wa (.lst ((Txt.split l " ").map V.str)) = H3 at x3 hw3 ⊢
      have hD3 := x3 _ _ hDi
      refine ⟨las.map V.ref, hD3, Evl.sz_lt (by rw [List.length_map]; rw [List.length_map] at hi; omega), Evl.Ex.mut (xi.trans x3) hD, las ++ [wa], by rw [List.length_append, hl]; rfl, by rw [List.map_append]; exact upd_same, fun a ha' => ?_⟩
      rcases List.mem_append.mp ha' with h | h
      · obtain ⟨a0, a1, ws, a2, a3⟩ := hrows a h
        exact ⟨a0, a1, ws, by rw [upd_ne a1]; exact x3 _ _ a2, a3⟩
      · rw [List.mem_singleton.mp h]
        exact ⟨hw0, hwD, _, by rw [upd_ne hwD]; exact hw3, w1, by rw [split_wt]; have := hln.2; omega, fun w hw => (w3 w hw).mono (by decide)⟩
    · rintro H1 ⟨x1, las, hl, hD1, hrows⟩
      rw [List.length_map] at hl
      have lne : las ≠ [] := fun e => tne (List.length_eq_zero_iff.mp (by rw [← hl, e]; rfl))
      refine ⟨Evl.sz_of (by simp), fun p1 hp1 => ⟨_, rfl, Evl.sz_of (by simp), fun p2 hp2 => ?_⟩⟩
      have g1 := ex_new (o := .lst [V.str "", V.str "search"]) hp2 _ _ (upd_same (H := H1) (a := p1) (o := .lst [V.str "island", V.str "from", V.str ".A", V.str "A.", V.str "~", V.str "north", V.str "0", V.str "3", V.str "7", V.str "01", V.str "100", V.str "turn", V.str "near", V.str "shore"]))
      refine ⟨p1, p2, _, _, rfl, rfl, g1, upd_same, Evl.sz_of (by simp), fun po hpo => ?_⟩
      have x2 := ((ex_new (o := .lst [V.str "island", V.str "from", V.str ".A", V.str "A.", V.str "~", V.str "north", V.str "0", V.str "3", V.str "7", V.str "01", V.str "100", V.str "turn", V.str "near", V.str "shore"]) hp1).trans (ex_new (o := .lst [V.str "", V.str "search"]) hp2)).trans (ex_new (o := .lst (odds.map V.str)) hpo)
      have hpo2 : upd (upd (upd H1 p1 (.lst [V.str "island", V.str "from", V.str ".A", V.str "A.", V.str "~", V.str "north", V.str "0", V.str "3", V.str "7", V.str "01", V.str "100", V.str "turn", V.str "near", V.str "shore"])) p2 (.lst [V.str "", V.str "search"])) po (.lst (odds.map V.str)) po = some (.lst (odds.map V.str)) := upd_same
      have pon : po ∉ las := fun hm => by
        obtain ⟨_, _, ws, e, _⟩ := hrows po hm
        have e2 := ((ex_new (o := .lst [V.str "island", V.str "from", V.str ".A", V.str "A.", V.str "~", V.str "north", V.str "0", V.str "3", V.str "7", V.str "01", V.str "100", V.str "turn", V.str "near", V.str "shore"]) hp1).trans (ex_new (o := .lst [V.str "", V.str "search"]) hp2)) _ _ e
        rw [hpo] at e2
        cases e2
      have rx0 : RXl H H1 D po las 0 := ⟨hD1, lne, by omega, hD, pon, fun a ha' => by
        obtain ⟨a0, _, ws, a2, a3⟩ := hrows a ha'
        exact ⟨a0, ws, a2, a3⟩⟩
      have rx2 := rx0.ex x2
      have x12 := x1.trans x2
      have hx2 := hx.ex x12
      refine ⟨_, rfl, ha, la, 3, rfl, hx2, by decide, by decide, fun nv H3 n0 n1 k3 hx3 => ⟨_, rfl, by omega, by omega, ?_⟩⟩
      have po2 : po ∉ [ha, la] := row_away hx2 hpo2 (by decide)
      have poD : po ≠ D := fun e => by
        have h := rx2.1
        rw [← e, hpo2] at h
        injection h with h
        injection h with h
        cases las with
        | nil => exact lne rfl
        | cons a r => cases h
      refine for_range (fun n σ H' => ∃ (las : List Addr) (o4 o5 o6 o7 : Option V), σ = [some (.ref ha), some (.ref pl), some (.ref D), some (.ref po), o4, o5, o6, o7, none, none] ∧ RXl H H' D po las n ∧ H' po = some (.lst (odds.map V.str)) ∧ Ky [ha, la] H H' ∧ HX H' ha la)
        ⟨las, none, none, none, none, rfl, rx2.ky hx2 k3, k3.1 po _ po2 hpo2, (Ky.of x12).trans k3, hx3⟩ ?_ ?_
      · rintro n σ G hn ⟨las, o4, o5, o6, o7, rfl, rx, hpg, kk, hxg⟩
        have hn2 : n < 2 := by omega
        have sqD : ∀ {G' : Hp}, RXl H G' D po las n → SqL K G' D (las.map V.ref) := fun h => .of h.1
        have ll : 1 ≤ las.length := List.length_pos_iff.mpr rx.2.1
        have lb := rx.2.2.1
        refine ⟨_, rfl, _, rfl, D, _, rfl, .inl (sqD rx), ha, la, _, rfl, hxg, by rw [List.length_map]; omega, by rw [List.length_map]; omega, fun av G1 a0 a1 y1 hg1 => ⟨_, rfl, ha, la, 7, rfl, hg1, by decide, by decide, fun kd G2 d0 d1 y2 hg2 => ⟨_, _, rfl, ?_⟩⟩⟩
        rw [List.length_map] at a1
        have rx2 := (rx.ky hxg y1).ky hg1 y2
        have hp2 := (y1.trans y2).1 po _ po2 hpg
        have kk2 := (kk.trans y1).trans y2
        obtain ⟨an, ean⟩ : ∃ n : Nat, (n : Int) = av := ⟨av.toNat, by omega⟩
        obtain ⟨a, hla⟩ : ∃ a, las[an]? = some a := ⟨_, List.getElem?_eq_getElem (by omega)⟩
        have ham := List.mem_of_getElem? hla
        have hix : atI (las.map V.ref) av = some (.ref a) := by rw [← ean]; exact atI_nat (by rw [List.getElem?_map, hla]; rfl)
        obtain ⟨a0n, ws, haw, rg⟩ := rx2.2.2.2.2.2 a ham
        have wl1 : 1 ≤ ws.length := List.length_pos_iff.mpr rg.1
        have wl2 := wt_len ws
        have rg2 := rg.2.1
        refine ⟨_, rfl, _, rfl, _, rfl, D, _, _, .ref a, rfl, rfl, sqD rx2, hix, a, _, rfl, .inl (.of haw), ha, la, _, rfl, hg2, by rw [List.length_map]; omega, by rw [List.length_map]; omega, fun sv G3 s0 s1 y3 hg3 => ?_⟩
        rw [List.length_map] at s1
        have rx3 := rx2.ky hg2 y3
        have hp3 := y3.1 po _ po2 hp2
        have kk3 := kk2.trans y3
        have han := row_away hg2 haw rg.1
        have haw3 := y3.1 a _ han haw
        obtain ⟨sn, esn⟩ : ∃ n : Nat, (n : Int) = sv := ⟨sv.toNat, by omega⟩
        have sn1 : sn < ws.length := by omega
        clear rx rx2 hp2 hpg haw
        have apo : a ≠ po := fun e => rx3.2.2.2.2.1 (by rw [← e]; exact ham)
        -- an odd word
        have odd : ∀ {v : Int}, 0 ≤ v → v < 16 → ∃ z, atI (odds.map V.str) v = some (.str z) ∧ LnT 6 z := fun {v} h0 h1 => by
          obtain ⟨m, em⟩ : ∃ m : Nat, (m : Int) = v := ⟨v.toNat, by omega⟩
          have hm : m < odds.length := by
            have : odds.length = 16 := rfl
            omega
          refine ⟨odds[m], by rw [← em]; exact atI_nat (by rw [List.getElem?_map, List.getElem?_eq_getElem hm]; rfl), odds_ok _ (List.getElem_mem hm)⟩
        have finRow : ∀ {G' : Hp} {ws' : List Str}, RXl H G' D po las n → G' po = some (.lst (odds.map V.str)) → Ky [ha, la] H G' → HX G' ha la → a ∉ [ha, la] → RowG (n + 1) ws' → ∃ (las' : List Addr) (o4' o5' o6' o7' : Option V), [some (V.ref ha), some (.ref pl), some (.ref D), some (.ref po), some (.int (0 + (n : Int))), some (.int av), some (.int kd), some (.int sv), none, none] = [some (.ref ha), some (.ref pl), some (.ref D), some (.ref po), o4', o5', o6', o7', none, none] ∧ RXl H (upd G' a (.lst (ws'.map V.str))) D po las' (n + 1) ∧ upd G' a (.lst (ws'.map V.str)) po = some (.lst (odds.map V.str)) ∧ Ky [ha, la] H (upd G' a (.lst (ws'.map V.str))) ∧ HX (upd G' a (.lst (ws'.map V.str))) ha la := fun {G' ws'} r p k hx na g =>
          ⟨las, _, _, _, _, rfl, r.row ham g, by rw [upd_ne apo.symm]; exact p, k.mut a0n, hx.put na⟩
        have finD : ∀ {G' : Hp} {las' : List Addr}, RXl H G' D po las n → G' po = some (.lst (odds.map V.str)) → Ky [ha, la] H G' → HX G' ha la → las' ≠ [] → las'.length ≤ 10 + (n + 1) → (∀ a ∈ las', a ∈ las ∨ (H a = none ∧ a ≠ D ∧ a ≠ po ∧ ∃ ws, G' a = some (.lst (ws.map V.str)) ∧ RowG n ws)) → ∃ (las2 : List Addr) (o4' o5' o6' o7' : Option V), [some (V.ref ha), some (.ref pl), some (.ref D), some (.ref po), some (.int (0 + (n : Int))), some (.int av), some (.int kd), some (.int sv), none, none] = [some (.ref ha), some (.ref pl), some (.ref D), some (.ref po), o4', o5', o6', o7', none, none] ∧ RXl H (upd G' D (.lst (las'.map V.ref))) D po las2 (n + 1) ∧ upd G' D (.lst (las'.map V.ref)) po = some (.lst (odds.map V.str)) ∧ Ky [ha, la] H (upd G' D (.lst (las'.map V.ref))) ∧ HX (upd G' D (.lst (las'.map V.ref))) ha la := fun {G' las'} r p k hx ne lz hm =>
          ⟨las', _, _, _, _, rfl, r.lst ne lz hm, by rw [upd_ne poD]; exact p, k.mut r.2.2.2.1, hx.put (r.awayD hx)⟩
        refine ⟨_, rfl, rfl, _, rfl, ?_⟩
        refine ifB (fun _ => ?_) (fun _ => ?_)
        · refine ⟨_, rfl, .inl ⟨rfl, _, sqD rx3⟩, _, rfl, _, rfl, _, rfl, _, rfl, D, _, rfl, .inl (sqD rx3), ha, la, _, rfl, hg3, by rw [List.length_map]; omega, by rw [List.length_map]; omega, fun v G4 v0 v1 y4 hg4 => ?_⟩
          rw [List.length_map] at v1
          have rx4 := rx3.ky hg3 y4
          obtain ⟨vn, evn⟩ : ∃ n : Nat, (n : Int) = v := ⟨v.toNat, by omega⟩
          obtain ⟨b, hlb⟩ : ∃ b, las[vn]? = some b := ⟨_, List.getElem?_eq_getElem (by omega)⟩
          obtain ⟨b0n, wb, hbw, bg⟩ := rx4.2.2.2.2.2 b (List.mem_of_getElem? hlb)
          refine ⟨D, _, _, .ref b, rfl, rfl, sqD rx4, by rw [← evn]; exact atI_nat (by rw [List.getElem?_map, hlb]; rfl), b, _, rfl, .inl (.of hbw), fun l hl => ?_⟩
          have x5 := ex_new (o := .lst (wb.map V.str)) hl
          have hp5 := x5 _ _ (y4.1 po _ po2 hp3)
          have rx5 := rx4.ex x5
          have kk5 := (kk3.trans y4).trans (.of x5)
          refine ⟨D, las.map V.ref, av, .ref l, rfl, rfl, rx5.1, Evl.sz_lt (by rw [List.length_map]; omega), a0, by omega, ?_⟩
          have e5 : (las.map V.ref).take av.toNat ++ [V.ref l] ++ (las.map V.ref).drop av.toNat = (las.take av.toNat ++ [l] ++ las.drop av.toNat).map V.ref := by simp [List.map_take, List.map_drop]
          rw [e5]
          have l0 : H l = none := (kk3.trans y4).fresh hl (fun hm => by
            have := hg4.fresh hl
            exact this hm)
          refine finD rx5 hp5 kk5 (hg4.ex x5) (by simp) (by simp only [List.length_append, List.length_take, List.length_drop, List.length_cons, List.length_nil]; omega) fun c hc => ?_
          rcases List.mem_append.mp hc with h | h
          · rcases List.mem_append.mp h with h | h
            · exact .inl (List.mem_of_mem_take h)
            · rw [List.mem_singleton.mp h]
              refine .inr ⟨l0, fun e => ?_, fun e => ?_, wb, upd_same, bg⟩
              · rw [e, rx4.1] at hl
                cases hl
              · rw [e, y4.1 po _ po2 hp3] at hl
                cases hl
          · exact .inl (List.mem_of_mem_drop h)
        refine ⟨_, rfl, rfl, _, rfl, ?_⟩
        have rest : True := trivial
        refine ifB (fun _ => ⟨_, rfl, D, _, rfl, .inl (sqD rx3), _, _, rfl, rfl, _, rfl, ifB (fun el => ?_) (fun _ => ?_)⟩) (fun _ => ?_)
        · rw [List.length_map] at el
          have el := of_decide_eq_true el
          refine ⟨_, rfl, .inl ⟨rfl, _, sqD rx3⟩, _, rfl, D, las.map V.ref, av, an, .ref a, rfl, rfl, rx3.1, by omega, by omega, ?_, by rw [List.getElem?_map, hla]; rfl, ?_⟩
          · rw [List.length_map]
            exact seq_ix ean (by omega)
          · have e5 : (las.map V.ref).eraseIdx an = (las.eraseIdx an).map V.ref := map_erase _ _ _
            rw [e5]
            have el2 : (las.eraseIdx an).length = las.length - 1 := List.length_eraseIdx_of_lt (by omega)
            refine finD rx3 hp3 kk3 hg3 (fun e => ?_) (by omega) fun c hc => .inl (List.mem_of_mem_eraseIdx hc)
            rw [e] at el2
            simp at el2
            omega
        all_goals
          refine ⟨_, rfl, _, _, rfl, rfl, _, rfl, ?_⟩
          refine ifB (fun _ => ?_) (fun _ => ?_)
          · refine ⟨_, rfl, _, rfl, ha, la, 16, rfl, hg3, by decide, by decide, fun v G4 v0 v1 y4 hg4 => ?_⟩
            obtain ⟨z, hz, lz⟩ := odd v0 v1
            have rx4 := rx3.ky hg3 y4
            have hp4 := y4.1 po _ po2 hp3
            have na := row_away hg3 haw3 rg.1
            have haw4 := y4.1 a _ na haw3
            refine ⟨po, _, _, .str z, rfl, rfl, .of hp4, hz, _, rfl, _, rfl, D, _, _, .ref a, rfl, rfl, sqD rx4, hix, _, rfl, a, _, sv, sn, rfl, rfl, haw4, ?_, ?_⟩
            · unfold ixN
              rw [List.length_map, if_pos s0, if_pos s1, ← esn]
              simp
            · have e5 : (ws.map V.str).set sn (.str z) = (ws.set sn z).map V.str := by rw [List.map_set]
              rw [e5]
              exact finRow rx4 hp4 (kk3.trans y4) hg4 na (rowG_set rg lz)
          refine ⟨_, rfl, rfl, _, rfl, ?_⟩
          refine ifB (fun _ => ?_) (fun _ => ?_)
          · refine ⟨_, rfl, _, rfl, D, _, _, .ref a, rfl, rfl, sqD rx3, hix, .inl ⟨rfl, _, .of haw3⟩, _, rfl, _, rfl, _, rfl, ha, la, 16, rfl, hg3, by decide, by decide, fun v G4 v0 v1 y4 hg4 => ?_⟩
            obtain ⟨z, hz, lz⟩ := odd v0 v1
            have rx4 := rx3.ky hg3 y4
            have hp4 := y4.1 po _ po2 hp3
            have na := row_away hg3 haw3 rg.1
            have haw4 := y4.1 a _ na haw3
            refine ⟨po, _, _, .str z, rfl, rfl, .of hp4, hz, a, _, sv, .str z, rfl, rfl, haw4, Evl.sz_lt (by rw [List.length_map]; omega), s0, by omega, ?_⟩
            have e5 : (ws.map V.str).take sv.toNat ++ [V.str z] ++ (ws.map V.str).drop sv.toNat = (ws.take sv.toNat ++ [z] ++ ws.drop sv.toNat).map V.str := by simp [List.map_take, List.map_drop]
            rw [e5]
            exact finRow rx4 hp4 (kk3.trans y4) hg4 na (rowG_ins rg lz)
          refine ⟨_, rfl, rfl, _, rfl, ?_⟩
          refine ifB (fun _ => ⟨_, rfl, _, rfl, D, _, _, .ref a, rfl, rfl, sqD rx3, hix, a, _, rfl, .inl (.of haw3), _, _, rfl, rfl, _, rfl, ifB (fun el => ?_) (fun _ => ?_)⟩) (fun _ => ?_)
          · rw [List.length_map] at el
            have el := of_decide_eq_true el
            have na := row_away hg3 haw3 rg.1
            obtain ⟨z, hz⟩ : ∃ z, ws[sn]? = some z := ⟨_, List.getElem?_eq_getElem sn1⟩
            refine ⟨_, rfl, _, rfl, D, _, _, .ref a, rfl, rfl, sqD rx3, hix, .inl ⟨rfl, _, .of haw3⟩, _, rfl, a, ws.map V.str, sv, sn, .str z, rfl, rfl, haw3, by omega, by omega, ?_, by rw [List.getElem?_map, hz]; rfl, ?_⟩
            · rw [List.length_map]
              exact seq_ix esn (by omega)
            · have e5 : (ws.map V.str).eraseIdx sn = (ws.eraseIdx sn).map V.str := map_erase _ _ _
              rw [e5]
              exact finRow rx3 hp3 kk3 hg3 na (rowG_erase rg (by omega) sn1)
          all_goals
            refine ⟨_, rfl, _, rfl, D, _, _, .ref a, rfl, rfl, sqD rx3, hix, .inl ⟨rfl, _, .of haw3⟩, _, rfl, _, rfl, ha, la, 16, rfl, hg3, by decide, by decide, fun v G4 v0 v1 y4 hg4 => ?_⟩
            obtain ⟨z, hz, lz⟩ := odd v0 v1
            have rx4 := rx3.ky hg3 y4
            have hp4 := y4.1 po _ po2 hp3
            have na := row_away hg3 haw3 rg.1
            have haw4 := y4.1 a _ na haw3
            refine ⟨po, _, _, .str z, rfl, rfl, .of hp4, hz, a, _, .str z, rfl, rfl, haw4, Evl.sz_lt (by rw [List.length_map]; omega), ?_⟩
            have e5 : ws.map V.str ++ [V.str z] = (ws ++ [z]).map V.str := by simp
            rw [e5]
            exact finRow rx4 hp4 (kk3.trans y4) hg4 na (rowG_app rg lz)
      · rintro σ G ⟨las, o4, o5, o6, o7, rfl, rx, hpg, kk, hxg⟩
        have nv2 : (nv : Int).toNat ≤ 2 := by omega
        have lb := rx.2.2.1
        refine ⟨_, rfl, D, rfl, ⟨_, .of rx.1⟩, fun D2 hD2 => ?_⟩
        refine lcD (K := K) (S := []) (g := gName 9) (walk_list (K := K) (a := D) (xs := las.map V.ref)) hD2 (fun _ => True) (fun m ds => ∃ ss : List Str, ds = ss.map PyData.str ∧ ss.length = m ∧ ∀ s ∈ ss, LnT 60 s) (by simp) (by rw [List.length_map]; omega) (fun _ _ _ => trivial) (fun H' k _ => .of (k.ex _ _ rx.1)) trivial ⟨[], rfl, rfl, fun s hs => by cases hs⟩ ?_ ?_
        · rintro m x Ha Hb ds P1 P2 hm ⟨ss, rfl, a1, a2⟩ k1 _ ⟨rfl, hx'⟩ c1 c2
          rw [List.getElem?_map, Option.map_eq_some_iff] at hx'
          obtain ⟨a, hla, rfl⟩ := hx'
          obtain ⟨_, ws, haw, rg⟩ := rx.2.2.2.2.2 a (List.mem_of_getElem? hla)
          have w60 : wt ws ≤ 60 := by have := rg.2.1; omega
          have jl := join_ln w60 fun z hz => (rg.2.2 z hz).mono (by decide)
          refine ⟨rfl, tY ⟨rfl, _, rfl, _, a, ws, rfl, rfl, .inl (.of (k1.ex _ _ haw)), join_sz (by omega), c1 _ (.str (Txt.join " " ws)) _ (.refl _ _) trivial (.str _) (by unfold tupOnly tupD; exact lnT_ok jl) ⟨ss ++ [Txt.join " " ws], by rw [List.map_append]; rfl, by rw [List.length_append, a1]; rfl, fun s hs => ?_⟩⟩⟩
          rcases List.mem_append.mp hs with h | h
          · exact a2 s h
          · rw [List.mem_singleton.mp h]
            exact jl
        · rintro G2 ds k1 _ nd ⟨ss, rfl, a1, a2⟩ _
          rw [List.length_map] at a1
          obtain ⟨xs, e1, e2, _⟩ := nd
          obtain rfl := dps_str_eq e2
          have sne : ss ≠ [] := fun e => rx.2.1 (List.length_eq_zero_iff.mp (by rw [← a1, e]; rfl))
          have hx2 := hxg.ex k1.ex
          exact q D2 G2 ss e1 sne (by omega) a2 (row_away hx2 e1 sne) (kk.trans (.of k1.ex)) hx2
end
end Om
end PartC12
section PartPL11
set_option Elab.async false
set_option linter.all false
/-! Plain lemmas for law: what is read of lines that are not long. -/
namespace Om
open PySem L2 TL
theorem lnT_sz {n : Nat} {z : Str} (h : LnT n z) : z.cps.size ≤ n := by
  have : z.cps.size = (tl z).length := by simp [tl]
  rw [this]
  exact h.2
theorem okR_lines {n : Nat} {ls : List Str} (h : ∀ l ∈ ls, LnT n l) (hz : ls.length ≤ 1000) (hn : n + 1 ≤ 1000) : OkR (rowsT ls) ∧ ∀ ws ∈ rowsT ls, ws.length ≤ n + 1 := by
  refine ⟨⟨by unfold rowsT; rw [List.length_map]; exact hz, fun ws hw => ?_⟩, fun ws hw => ?_⟩
  all_goals
    unfold rowsT at hw
    obtain ⟨l, hl, rfl⟩ := List.mem_map.mp hw
    obtain ⟨w1, w2, w3⟩ := words_bd (h l hl)
  · exact ⟨w1, by omega, fun z hz => ⟨lnT_ok (w3 z hz), by have := lnT_sz (w3 z hz); omega⟩⟩
  · exact w2
theorem parts_pre : ∀ (fs : List Fm) (ws : List Str) (k : Nat) (acc : List PyData) (e : Nat) (ds : List PyData), partsAt fs ws k acc = .ok (e, ds) → ∃ t, ds = acc ++ t
  | [], ws, k, acc, e, ds, h => by
    cases h
    exact ⟨[], by simp⟩
  | f :: r, ws, k, acc, e, ds, h => by
    obtain ⟨k', d, _, g⟩ := one_part h
    obtain ⟨t, e⟩ := parts_pre r ws k' _ _ _ g
    exact ⟨d :: t, by rw [e]; simp⟩
theorem map_int_len {a b : List Int} (h : a.map PyData.int = b.map PyData.int) : a.length = b.length := by
  have := congrArg List.length h
  simpa using this
theorem row_turn {ws : List Str} {ts : List Int} (h : rowAt ws = .ok [.str "turn", .tuple (ts.map PyData.int)]) : ts.length < ws.length := by
  cases ws with
  | nil => cases h
  | cons w r =>
    unfold rowAt at h
    simp only at h
    cases q : formsOf w with
    | none => rw [q] at h; cases h
    | some fs =>
      rw [q] at h
      simp only at h
      cases q2 : partsAt fs (w :: r) 1 [.str w] with
      | error e => rw [q2] at h; cases h
      | ok p =>
        obtain ⟨e, ds2⟩ := p
        rw [q2] at h
        simp only at h
        split at h
        · injection h with h
          subst h
          obtain ⟨t, et⟩ := parts_pre _ _ _ _ _ _ q2
          injection et with e1 e2
          injection e1 with e1
          have ef : fs = [.nums] := by
            rw [← e1] at q
            have q3 : formsOf ("turn" : Str) = some [.nums] := by decide +kernel
            rw [q3] at q
            injection q with q
            exact q.symm
          rw [ef] at q2
          obtain ⟨k1, d1, g1, g⟩ := one_part q2
          injection g with g
          injection g with _ g
          injection g with _ g
          injection g with g _
          unfold partAt at g1
          simp only at g1
          split at g1
          · cases q3 : numsL ((w :: r).drop 1) 1 with
            | error e => rw [q3] at g1; cases g1
            | ok l =>
              rw [q3] at g1
              simp only at g1
              injection g1 with g1
              injection g1 with _ g1
              rw [g] at g1
              injection g1 with g1
              have a1 := (numsL_ok _ _ _ q3).1
              have a2 := map_int_len g1
              rw [List.length_drop, List.length_cons] at a1
              rw [List.length_cons]
              omega
          · cases g1
        · cases h
theorem insS_wf : ∀ (r : List (List Str)) (k : Nat) (l : List (List PyData)) (j : Nat), (∀ ws ∈ r, OkW ws ∧ ws.length ≤ 61) → insS r k = .ok (l, j) → l.length ≤ r.length ∧ ∀ d ∈ l, WfS d
  | [], k, l, j, _, h => by
    cases h
    exact ⟨Nat.le_refl _, fun d hd => by cases hd⟩
  | ws :: r, k, l, j, ok, h => by
    unfold insS at h
    by_cases hs : ws.headD Str.empty = "search"
    · rw [if_pos hs] at h
      cases h
      exact ⟨Nat.zero_le _, fun d hd => by cases hd⟩
    · rw [if_neg hs] at h
      cases hr : rowAt ws with
      | error e => rw [hr] at h; cases h
      | ok d =>
        rw [hr] at h
        simp only at h
        cases hi : insS r (k + 1) with
        | error e => rw [hi] at h; cases h
        | ok lj =>
          obtain ⟨l2, j2⟩ := lj
          rw [hi] at h
          cases h
          obtain ⟨h1, h2⟩ := insS_wf r (k + 1) l2 _ (fun w hw => ok w (.tail _ hw)) hi
          obtain ⟨o1, o2⟩ := ok ws (.head _)
          refine ⟨Nat.succ_le_succ h1, fun x hx => ?_⟩
          rcases List.mem_cons.mp hx with rfl | hx
          · refine ⟨row_wf o1 (by omega) hr, fun ts e => ?_⟩
            rw [e] at hr
            have := row_turn hr
            omega
          · exact h2 x hx
/-- a chart that was read -/
structure ChOk (c : Chart) : Prop where
  rl : c.rows.length ≤ 1000
  rs : ∀ w ∈ c.rows, PyData.strOk w = true
  sg : PyData.strOk c.signs = true
  fl : c.facs.length ≤ 1000
  il : c.ins.length ≤ 1000
  wf : ∀ d ∈ c.ins, WfS d
theorem knI_small : ∀ c ∈ knI, c < 0x110000 := by decide
theorem readS_ok {rws : List (List Str)} (ok : OkR rws) (hl : ∀ ws ∈ rws, ws.length ≤ 61) {c : Chart} {k : Nat} (h : readS rws = .ok (c, k)) : ChOk c := by
  unfold readS at h
  cases hi : islandAt rws with
  | error e => rw [hi] at h; cases h
  | ok rows =>
    rw [hi] at h
    simp only at h
    obtain ⟨⟨i1, w0, r0, i2, i3, i4, i5⟩, wr, hf⟩ := island_ok (fun ws hws => (ok.2 ws hws).1) hi
    cases hb : beginAt (rws.getD (rows.length + 1) []) with
    | error e => rw [hb] at h; cases h
    | ok sf =>
      obtain ⟨s, f⟩ := sf
      rw [hb] at h
      simp only at h
      cases hs : insS (rws.drop (rows.length + 2)) (rows.length + 2) with
      | error e => rw [hs] at h; cases h
      | ok lj =>
        obtain ⟨l, j⟩ := lj
        rw [hs] at h
        cases h
        have mem : rws.getD (rows.length + 1) [] ∈ rws := by
          rw [List.getD_eq_getElem?_getD, hf]
          exact List.mem_of_getElem? hf
        obtain ⟨b1, b2, b3, b4, b5⟩ := begin_ok hb
        obtain ⟨o1, o2, o3⟩ := ok.2 _ mem
        obtain ⟨g1, g2⟩ := insS_wf _ _ _ _ (fun ws hw => ⟨(ok.2 ws (List.mem_of_mem_drop hw)).2.2, hl ws (List.mem_of_mem_drop hw)⟩) hs
        rw [List.length_drop] at g1
        have := ok.1
        refine ⟨by show rows.length ≤ 1000; omega, fun w hw => strOk_iff.mpr fun c hc => ?_, (o3 s (List.mem_of_getElem? b1)).1, by show f.length ≤ 1000; omega, by show l.length ≤ 1000; omega, g2⟩
        have := (i5 w hw).1
        unfold rowKnown at this
        exact knI_small c (of_decide_eq_true (List.all_eq_true.mp this c hc))
theorem lawD_ints {n : Nat} {l : List Int} : ∀ d ∈ l.map PyData.int, lawD n d := fun d hd => by
  obtain ⟨i, _, rfl⟩ := List.mem_map.mp hd
  unfold lawD
  trivial
theorem lawD_int {n : Nat} {i : Int} : lawD n (.int i) := by unfold lawD; trivial
theorem lawD_str {n : Nat} {z : Str} (h : PyData.strOk z = true) : lawD n (.str z) := by unfold lawD; exact h
theorem lawD_lits : PyData.strOk ("turn" : Str) = true ∧ PyData.strOk ("walk" : Str) = true ∧ PyData.strOk ("until" : Str) = true ∧ PyData.strOk ("toward" : Str) = true ∧ PyData.strOk ("beside" : Str) = true ∧ PyData.strOk ("near" : Str) = true ∧ PyData.strOk ("shore" : Str) = true ∧
    PyData.strOk ("InvalidText" : Str) = true ∧ PyData.strOk ("InvalidMap" : Str) = true ∧ PyData.strOk ("chart" : Str) = true := by decide +kernel
theorem wfS_law {d : List PyData} (h : WfS d) : lawD 3 (.tuple d) := by
  obtain ⟨h, _⟩ := h
  obtain ⟨s1, s2, s3, s4, s5, s6, s7, _⟩ := lawD_lits
  have all : ∀ {l : List PyData}, l.length ≤ 1000 → (∀ d ∈ l, lawD 2 d) → lawD 3 (.tuple l) := fun h1 h2 => ⟨h1, h2⟩
  cases h with
  | turn ts a b c =>
    refine all (by simp) fun x hx => ?_
    rcases List.mem_cons.mp hx with rfl | hx
    · exact lawD_str s1
    · rw [List.mem_singleton.mp hx]
      exact ⟨by rw [List.length_map]; exact c, lawD_ints⟩
  | walk a b _ _ =>
    refine all (by simp) fun x hx => ?_
    simp only [List.mem_cons, List.not_mem_nil, or_false] at hx
    rcases hx with rfl | rfl | rfl
    · exact lawD_str s2
    · exact lawD_int
    · exact lawD_int
  | untl z _ _ c =>
    refine all (by simp) fun x hx => ?_
    simp only [List.mem_cons, List.not_mem_nil, or_false] at hx
    rcases hx with rfl | rfl
    · exact lawD_str s3
    · exact lawD_str c
  | towd z _ _ c =>
    refine all (by simp) fun x hx => ?_
    simp only [List.mem_cons, List.not_mem_nil, or_false] at hx
    rcases hx with rfl | rfl
    · exact lawD_str s4
    · exact lawD_str c
  | besd t z _ _ _ c =>
    refine all (by simp) fun x hx => ?_
    simp only [List.mem_cons, List.not_mem_nil, or_false] at hx
    rcases hx with rfl | rfl | rfl
    · exact lawD_str s5
    · exact lawD_int
    · exact lawD_str c
  | near z m _ _ _ c =>
    refine all (by simp) fun x hx => ?_
    simp only [List.mem_cons, List.not_mem_nil, or_false] at hx
    rcases hx with rfl | rfl | rfl
    · exact lawD_str s6
    · exact lawD_str c
    · exact lawD_int
  | shor a b c _ _ _ =>
    refine all (by simp) fun x hx => ?_
    simp only [List.mem_cons, List.not_mem_nil, or_false] at hx
    rcases hx with rfl | rfl | rfl | rfl
    · exact lawD_str s7
    · exact lawD_int
    · exact lawD_int
    · exact lawD_int
theorem ch_law {c : Chart} (h : ChOk c) : lawD 5 (.tuple (.str "chart" :: chartD c)) := by
  obtain ⟨_, _, _, _, _, _, _, _, _, s0⟩ := lawD_lits
  refine ⟨by simp [chartD], fun x hx => ?_⟩
  rcases List.mem_cons.mp hx with rfl | hx
  · exact lawD_str s0
  unfold chartD at hx
  simp only [List.mem_cons, List.not_mem_nil, or_false] at hx
  rcases hx with rfl | rfl | rfl | rfl
  · refine ⟨by rw [List.length_map]; exact h.rl, fun y hy => ?_⟩
    obtain ⟨w, hw, rfl⟩ := List.mem_map.mp hy
    exact lawD_str (h.rs w hw)
  · exact lawD_str h.sg
  · exact ⟨by rw [List.length_map]; exact h.fl, lawD_ints⟩
  · refine ⟨by rw [List.length_map]; exact h.il, fun y hy => ?_⟩
    obtain ⟨d, hd, rfl⟩ := List.mem_map.mp hy
    exact wfS_law (h.wf d hd)
theorem it_law {n : Nat} (r w : Int) : lawD (n + 1) (.tuple [.str "InvalidText", .int r, .int w]) := by
  obtain ⟨_, _, _, _, _, _, _, s0, _, _⟩ := lawD_lits
  refine ⟨by simp, fun x hx => ?_⟩
  simp only [List.mem_cons, List.not_mem_nil, or_false] at hx
  rcases hx with rfl | rfl | rfl
  · exact lawD_str s0
  · exact lawD_int
  · exact lawD_int
theorem im_law {n : Nat} (i : Int) : lawD (n + 1) (.tuple [.str "InvalidMap", .int i]) := by
  obtain ⟨_, _, _, _, _, _, _, _, s0, _⟩ := lawD_lits
  refine ⟨by simp, fun x hx => ?_⟩
  simp only [List.mem_cons, List.not_mem_nil, or_false] at hx
  rcases hx with rfl | rfl
  · exact lawD_str s0
  · exact lawD_int
/-- the due answer, from the law's reading -/
theorem seenD_err {rws : List (List Str)} {r k : Nat} (h : readM rws = .error (r, k)) : seenD rws = .tuple [.str "InvalidText", .int r, .int k] := by
  unfold seenD
  rw [h]
theorem seenD_bad {rws : List (List Str)} {c : Chart} {i : Int} (h : readM rws = .ok c) (hw : wrongIx c = some i) : seenD rws = .tuple [.str "InvalidMap", .int i] := by
  unfold seenD
  rw [h]
  simp only [hw]
theorem seenD_ok {rws : List (List Str)} {c : Chart} (h : readM rws = .ok c) (hw : wrongIx c = none) : seenD rws = .tuple (.str "chart" :: chartD c) := by
  unfold seenD
  rw [h]
  simp only [hw]
theorem seenD_law {rws : List (List Str)} (ok : OkR rws) (hl : ∀ ws ∈ rws, ws.length ≤ 61) : lawD 5 (seenD rws) := by
  have rel := readS_rel rws fun ws hw => (ok.2 ws hw).1
  cases hs : readS rws with
  | error e =>
    obtain ⟨r, k⟩ := e
    rw [hs] at rel
    rw [seenD_err rel]
    exact it_law _ _
  | ok ck =>
    obtain ⟨c, k⟩ := ck
    rw [hs] at rel
    have rel : (k < rws.length ∧ readM rws = .error (k, 0)) ∨ (¬ k < rws.length ∧ readM rws = .ok c) := rel
    rcases rel with ⟨_, e⟩ | ⟨_, e⟩
    · rw [seenD_err e]
      exact it_law _ _
    · cases hw : wrongIx c with
      | none =>
        rw [seenD_ok e hw]
        exact ch_law (readS_ok ok hl hs)
      | some i =>
        rw [seenD_bad e hw]
        exact im_law _
theorem seenD_tup (rws : List (List Str)) : ∃ ds, seenD rws = .tuple ds := by
  unfold seenD
  cases readM rws with
  | error e => exact ⟨_, rfl⟩
  | ok c =>
    simp only
    cases wrongIx c with
    | none => exact ⟨_, rfl⟩
    | some i => exact ⟨_, rfl⟩
/-- the five texts -/
theorem few1 : seenD (rowsW "") = .tuple [.str "InvalidText", .int 0, .int 0] := by
  refine seenD_err (r := 0) (k := 0) ?_
  kernel_rfl
theorem few2 : seenD (rowsW "island") = .tuple [.str "InvalidText", .int 1, .int 0] := by
  refine seenD_err (r := 1) (k := 0) ?_
  kernel_rfl
theorem few3 : seenD (rowsW "island\nfrom . north") = .tuple [.str "InvalidText", .int 1, .int 0] := by
  refine seenD_err (r := 1) (k := 0) ?_
  kernel_rfl
theorem few4 : seenD (rowsW "island\n.") = .tuple [.str "InvalidText", .int 2, .int 0] := by
  refine seenD_err (r := 2) (k := 0) ?_
  kernel_rfl
def wideL : List Str := ["island", ".", ".", ".", ".", ".", ".", ".", ".", ".", ".", ".", ".", ".", "from . north"]
theorem few5 : seenD (rowsT wideL) = .tuple [.str "InvalidText", .int 13, .int 0] := by
  refine seenD_err (r := 13) (k := 0) ?_
  kernel_rfl
theorem rowsW_join {ls : List Str} (hn : ls ≠ []) (h : ∀ l ∈ ls, 10 ∉ tl l) : rowsW (Txt.join "\n" ls) = rowsT ls := by
  unfold rowsW rowsT
  rw [split_join hn h]
theorem wt_lines {n : Nat} : ∀ {ls : List Str}, (∀ l ∈ ls, LnT n l) → wt ls ≤ ls.length * (n + 1)
  | [], _ => by simp [wt]
  | a :: r, h => by
    have ih := wt_lines (ls := r) fun l hl => h l (.tail _ hl)
    have ha := (h a (.head _)).2
    unfold wt at ih ⊢
    simp only [List.map_cons, List.sum_cons, List.length_cons, Nat.add_mul, Nat.one_mul]
    simp only [Nat.mul_add, Nat.mul_one] at ih ⊢
    omega
theorem nl_tl : tl (Str.ofString "\n") = [10] := by decide +kernel
theorem joinN_len (ws : List Str) : (Txt.join "\n" ws).cps.size ≤ wt ws := by
  have e0 : (Txt.join "\n" ws).cps.size = (tl (Txt.join "\n" ws)).length := by simp [tl]
  rw [e0, tj, nl_tl]
  refine Nat.le_trans (len_joinL _) ?_
  have : ∀ l : List Str, ((l.map tl).map (·.length)).sum + l.length = wt l := fun l => by
    induction l with
    | nil => rfl
    | cons a r ih =>
      unfold wt at ih ⊢
      simp only [List.map_cons, List.sum_cons, List.length_cons]
      omega
  rw [← this ws, List.length_map]
  have e2 : ([10] : List Nat).length = 1 := rfl
  rw [e2]
  omega
theorem joinN_sz {ws : List Str} (h : wt ws ≤ 1000) : (ws.map (·.length)).sum + ws.length * (Str.ofString "\n").length ≤ 16777216 := by
  have e1 : (Str.ofString "\n").length = 1 := by decide +kernel
  have : ∀ l : List Str, (l.map (·.length)).sum + l.length = wt l := fun l => by
    induction l with
    | nil => rfl
    | cons a r ih =>
      unfold wt at ih ⊢
      simp only [List.map_cons, List.sum_cons, List.length_cons, len_tl]
      simp only [len_tl] at ih
      omega
  have := this ws
  rw [e1]
  omega
/-- what _law_seen asks of a text that is joined -/
theorem join_law {ls : List Str} (hn : ls ≠ []) (hz : ls.length ≤ 15) (h : ∀ l ∈ ls, LnT 60 l) : (ls.map (·.length)).sum + ls.length * (Str.ofString "\n").length ≤ 16777216 ∧ (Txt.join "\n" ls).cps.size ≤ 100000 ∧
    (∀ l ∈ Txt.split (Txt.join "\n" ls) "\n", l.cps.size ≤ 100000) ∧ OkR (rowsW (Txt.join "\n" ls)) ∧ rowsW (Txt.join "\n" ls) = rowsT ls := by
  have w := wt_lines h
  have w2 : wt ls ≤ 1000 := by omega
  have n10 : ∀ l ∈ ls, 10 ∉ tl l := fun l hl hc => (((h l hl).1 10 hc).2 rfl)
  have e := rowsW_join hn n10
  refine ⟨joinN_sz w2, by have := joinN_len ls; omega, fun l hl => ?_, by rw [e]; exact (okR_lines h (by omega) (by decide)).1, e⟩
  rw [split_join hn n10] at hl
  have := lnT_sz (h l hl)
  omega
def fiveT : List Str := ["", "island", "island\nfrom . north", "island\n.", Txt.join "\n" wideL]
def fiveP : List Int := [0, 1, 1, 2, 13]
def itD (i : Int) : PyData := .tuple [.str "InvalidText", .int i, .int 0]
theorem itD_ok (i : Int) : tupOnly (itD i) = true := by
  obtain ⟨_, _, _, _, _, _, _, s0, _, _⟩ := lawD_lits
  unfold tupOnly itD
  simp [tupD, tupDs, s0]
theorem fiveD_law : lawD 5 (.list (fiveP.map itD)) := by
  refine ⟨by simp [fiveP], fun d hd => ?_⟩
  obtain ⟨i, _, rfl⟩ := List.mem_map.mp hd
  exact it_law _ _
def lnB (z : Str) : Bool := ((tl z).all fun c => decide (c < 0x110000 ∧ c ≠ 10)) && decide ((tl z).length ≤ 60)
theorem lnB_ok {z : Str} (h : lnB z = true) : LnT 60 z := by
  unfold lnB at h
  rw [Bool.and_eq_true] at h
  exact lit_ln h.1 (of_decide_eq_true h.2)
def SeenOk (z : Str) : Prop := z.cps.size ≤ 100000 ∧ (∀ l ∈ Txt.split z "\n", l.cps.size ≤ 100000) ∧ OkR (rowsW z)
theorem seen_of {z : Str} (ls : List Str) (hn : ls ≠ []) (hz : ls.length ≤ 15) (h : ls.all lnB = true) (e : Txt.join "\n" ls = z) : SeenOk z ∧ rowsW z = rowsT ls ∧ (ls.map (·.length)).sum + ls.length * (Str.ofString "\n").length ≤ 16777216 := by
  obtain ⟨j1, j2, j3, j4, j5⟩ := join_law hn hz fun l hl => lnB_ok (List.all_eq_true.mp h l hl)
  rw [e] at j2 j3 j4 j5
  exact ⟨⟨j2, j3, j4⟩, j5, j1⟩
theorem wide_ok : SeenOk (Txt.join "\n" wideL) ∧ rowsW (Txt.join "\n" wideL) = rowsT wideL ∧ (wideL.map (·.length)).sum + wideL.length * (Str.ofString "\n").length ≤ 16777216 := seen_of wideL (by decide) (by decide) (by decide +kernel) rfl
theorem five_ok : ∀ (m : Nat) (z : Str), fiveT[m]? = some z → SeenOk z ∧ ∃ i, fiveP[m]? = some i ∧ seenD (rowsW z) = itD i
  | 0, z, h => by
    cases h
    exact ⟨(seen_of [("" : Str)] (by decide) (by decide) (by decide +kernel) (by decide +kernel)).1, 0, rfl, few1⟩
  | 1, z, h => by
    cases h
    exact ⟨(seen_of [("island" : Str)] (by decide) (by decide) (by decide +kernel) (by decide +kernel)).1, 1, rfl, few2⟩
  | 2, z, h => by
    cases h
    exact ⟨(seen_of [("island" : Str), "from . north"] (by decide) (by decide) (by decide +kernel) (by decide +kernel)).1, 1, rfl, few3⟩
  | 3, z, h => by
    cases h
    exact ⟨(seen_of [("island" : Str), "."] (by decide) (by decide) (by decide +kernel) (by decide +kernel)).1, 2, rfl, few4⟩
  | 4, z, h => by
    have e : z = Txt.join "\n" wideL := by
      cases h
      rfl
    subst e
    exact ⟨wide_ok.1, 13, rfl, by rw [wide_ok.2.1]; exact few5⟩
  | m + 5, z, h => by cases h
end Om
end PartPL11
section PartC13
set_option Elab.async false
set_option linter.all false
set_option maxRecDepth 100000
set_option maxHeartbeats 400000
namespace Om
open PySem PySem.Spec PyProof.Rows L2 He TL
section
variable {w : World} {K : Frg} {mg : Str → Option Value} {base : Heap}
/-- law -/
def sp_law (K : Frg) : Sp := fun vs H Q _ => ∃ (a : Addr) (ns : List Int), vs = [.ref a] ∧ ns.length ≤ 63 ∧ SqL K H a (ns.map V.int) ∧ ∀ H', Q (.bl true) H'
theorem sc_law : FnScope ["_law_script", "_law_h", "_law_turn", "_law_lines", "_law_told", "_law_due", "_law_wrong", "_law_wide", "_law_few", "_law_text", "_law_one_here"] ["_law_script"] (defScope s_law) := ⟨rfl, rfl, rfl, by decide +kernel, rfl, by decide +kernel, by decide +kernel⟩
theorem ok_law (T : Tx w K mg) : FnOk prg w K mg base CX0 11 (ga K "law") (fdOf K (ga K "law")) ["_law_script"] (sp_law K) := by
  refine T.f_law.ok sc_law (fun vs H Q E h => ?_) (fun cdv A outer s H vs Q E hr h => ?_)
  · obtain ⟨a, ns, rfl, _⟩ := h
    rfl
  · obtain ⟨a, ns, rfl, hz, hs, q⟩ := h
    refine ⟨_, PSs.nox (pss_cons (ps_set (i := 1) sc_law.nd rfl (Or.inl rfl) (pe_call (ok__law_mix T) (hr.mono (by decide)) (by rfl) T.g__law_mix T.f__law_mix.kp T.p__law_mix .nil pass0 (pa_cons (pv 0) (pa_cons pe_int pa_nil))))
      (pss_cons (ps_for PassesOwn.never rfl (pi_range1 (by rfl) T.b_range (pa_cons pe_int pa_nil)) (pg_name (i := 2) sc_law.nd rfl (Or.inl rfl)) (pss_cons (ps_set (i := 3) sc_law.nd rfl (Or.inl rfl) (pe_call (ok__law_bent T) (hr.mono (by decide)) (by rfl) T.g__law_bent T.f__law_bent.kp T.p__law_bent .nil pass0 (pa_cons (pv 1) (pa_cons (pe_call (ok__law_text_of T) (hr.mono (by decide)) (by rfl) T.g__law_text_of T.f__law_text_of.kp T.p__law_text_of .nil pass0 (pa_cons (pe_call (ok__law_drawn T) (hr.mono (by decide)) (by rfl) T.g__law_drawn T.f__law_drawn.kp T.p__law_drawn .nil pass0 (pa_cons (pv 1) (pa_cons pe_int (pa_cons pe_int pa_nil)))) pa_nil)) pa_nil))))
      (pss_cons (ps_set (i := 4) sc_law.nd rfl (Or.inl rfl) (pe_call (ok__law_read T) (hr.mono (by decide)) (by rfl) T.g__law_read T.f__law_read.kp T.p__law_read .nil pass0 (pa_cons (pv 3) pa_nil)))
      (Evl.pss_cut (ps_if (pt_val (pe_callB call_isi (by rfl) T.b_isinstance boot_isinstance (pa_cons (pv 4) (pa_cons (pe_bltn (v := .ty "tuple") (by rfl) T.b_tuple boot_tuple rfl) pa_nil)))) (pss_one (ps_set (i := 5) sc_law.nd rfl (Or.inl rfl) (pe_op op_catA (pe_tup (pa_cons pe_str pa_nil)) (pv 4)))) (pss_one (ps_if (pt_cmpR op_lt (pe_ix ix_list (pv 4) pe_int (fun _ _ => rfl)) (pe_callB call_len_seq (by rfl) T.b_len PySem.boot_len (pa_cons (pv 3) pa_nil)) (nomark _)) (pss_one (ps_set (i := 5) sc_law.nd rfl (Or.inl rfl) (pe_tup (pa_cons pe_str (pa_cons (pe_ix ix_list (pv 4) pe_int (fun _ _ => rfl)) (pa_cons pe_int pa_nil)))))) (pss_cons (ps_set (i := 6) sc_law.nd rfl (Or.inl rfl) (pe_call (ok__law_wrong_index T) (hr.mono (by decide)) (by rfl) T.g__law_wrong_index T.f__law_wrong_index.kp T.p__law_wrong_index .nil pass0 (pa_cons (pe_ix ix_list (pv 4) pe_int (fun _ _ => rfl)) pa_nil)))
      (pss_one (ps_set (i := 5) sc_law.nd rfl (Or.inl rfl) (pe_ifExp (pt_cmpR op_isN (pv 6) pe_non (nomark _)) (pe_op op_catA (pe_tup (pa_cons pe_str pa_nil)) (pe_ix ix_list (pv 4) pe_int (fun _ _ => rfl))) (pe_tup (pa_cons pe_str (pa_cons (pv 6) pa_nil))))))))))
      (pss_one (ps_if (pt_not (pt_val (pe_call (ok_al T 5) (hr.mono (by decide)) (by rfl) T.g__law_alike T.f__law_alike.kp T.p__law_alike .nil pass0 (pa_cons (pe_call (ok__law_seen T) (hr.mono (by decide)) (by rfl) T.g__law_seen T.f__law_seen.kp T.p__law_seen .nil pass0 (pa_cons (pe_bm PySem.F.plainAttrs_str PySem.F.slot_str_join PySem.F.type_str_join mt_join pe_str (pa_cons (pv 3) pa_nil)) pa_nil)) (pa_cons (pv 5) pa_nil))))) (pss_one (ps_ret pe_bl)) pss_nil))))))
      (pss_cons (ps_set (i := 7) sc_law.nd rfl (Or.inl rfl) (pe_bm PySem.F.plainAttrs_str PySem.F.slot_str_join PySem.F.type_str_join mt_join pe_str (pa_cons (pe_op op_cat (pe_op op_cat (pe_lst (pa_cons pe_str pa_nil)) (pe_op op_rep (pe_lst (pa_cons pe_str pa_nil)) pe_int)) (pe_lst (pa_cons pe_str pa_nil))) pa_nil)))
      (pss_cons (ps_setLc (i := 8) (own := [("_law_text", 9)]) (g := gName 9) rfl sc_law.nd rfl rfl (sw_true rfl rfl rfl (by decide +kernel)) (pi_tup (pe_tup (pa_cons pe_str (pa_cons pe_str (pa_cons pe_str (pa_cons pe_str (pa_cons (pv 7) pa_nil))))))) (blkOk_by (own := [("_law_text", 9)]) (N := ["_law_script", "_law_h", "_law_turn", "_law_lines", "_law_told", "_law_due", "_law_wrong", "_law_wide", "_law_few", "_law_text", "_law_one_here"]) (sc := defScope s_law) (by decide +kernel)) (fun _ _ _ _ _ => pg_name (i := 9) sc_law.nd rfl (Or.inl rfl)) (fun _ _ _ _ _ => pts_nil) (fun _ _ _ _ _ => (pe_call (ok__law_seen T) (hr.mono (by decide)) (by rfl) T.g__law_seen T.f__law_seen.kp T.p__law_seen .nil pass0 (pa_cons (pv 9) pa_nil))))
      (pss_one (ps_ret (pe_call (ok_al T 5) (hr.mono (by decide)) (by rfl) T.g__law_alike T.f__law_alike.kp T.p__law_alike .nil pass0 (pa_cons (pv 8) (pa_cons (pe_lc (own := [("_law_one_here", 10)]) (g := gName 10) rfl sc_law.nd (pi_tup (pe_tup (pa_cons (pe_tup (pa_cons pe_int (pa_cons pe_int pa_nil))) (pa_cons (pe_tup (pa_cons pe_int (pa_cons pe_int pa_nil))) (pa_cons (pe_tup (pa_cons pe_int (pa_cons pe_int pa_nil))) (pa_cons (pe_tup (pa_cons pe_int (pa_cons pe_int pa_nil))) (pa_cons (pe_tup (pa_cons pe_int (pa_cons pe_int pa_nil))) pa_nil))))))) (blkOk_by (own := [("_law_one_here", 10)]) (N := ["_law_script", "_law_h", "_law_turn", "_law_lines", "_law_told", "_law_due", "_law_wrong", "_law_wide", "_law_few", "_law_text", "_law_one_here"]) (sc := defScope s_law) (by decide +kernel)) (fun _ _ _ _ _ => pg_name (i := 10) sc_law.nd rfl (Or.inl rfl)) (fun _ _ _ _ _ => pts_nil) (fun _ _ _ _ _ => (pe_op (kOp (K := K) (r := rCatA) rfl op_catA) (pe_tup (pa_cons pe_str pa_nil)) (pv 10)))) pa_nil))))))))), ?_⟩
    refine ⟨_, rfl, a, ns, 49, rfl, hs, hz, fun ha la H1 x1 hx => ?_⟩
    refine ⟨8, rfl, by decide, by decide, ?_⟩
    refine for_range (fun n σ G => ∃ o2 o3 o4 o5 o6 : Option V, σ = [some (.ref a), some (.ref ha), o2, o3, o4, o5, o6, none, none, none, none] ∧ HX G ha la) ⟨none, none, none, none, none, rfl, hx⟩ ?_ ?_
    · rintro n σ G hn ⟨o2, o3, o4, o5, o6, rfl, hg⟩
      refine ⟨_, rfl, _, rfl, ha, la, rfl, hg, fun p rows wd sg ts iss G1 dr k1 hg1 => ⟨p, rows, wd, sg, ts, iss, rfl, dr, fun p2 G2 ls x2 e2 n2 l2 t2 => ⟨ha, la, p2, ls, rfl, hg1.ex x2, e2, n2, l2, t2, fun p3 G3 ls3 e3 n3 l3 t3 na k3 hg3 => ?_⟩⟩⟩
      clear dr e2 n2 l2 t2 k1 x2 k3 hg1 na
      obtain ⟨okr, okl⟩ := okR_lines t3 (by omega) (by decide)
      have jl := join_law n3 (by omega) t3
      refine ⟨_, rfl, p3, ls3, rfl, e3, n3, fun l hl => Nat.le_trans (lnT_sz (t3 l hl)) (by decide), okr, fun v G4 x4 dp => ?_⟩
      have rel := readS_rel (rowsT ls3) fun ws hw => (okr.2 ws hw).1
      have lw := seenD_law okr okl
      have e4 := x4 _ _ e3
      have hz3 : (rowsT ls3).length = ls3.length := by simp [rowsT]
      refine ⟨fun σ' H' => ∃ (d : Addr) (o6 : Option V), σ' = [some (.ref a), some (.ref ha), some (.int (0 + (n : Int))), some (.ref p3), some v, some (.ref d), o6, none, none, none, none] ∧ Dp K H' (.ref d) (seenD (rowsT ls3)) ∧ Ex G4 H', ?_, ?_⟩
      · cases hq : readS (rowsT ls3) with
        | error e =>
          obtain ⟨r, k⟩ := e
          rw [hq] at rel dp
          rw [seenD_err rel]
          cases dp with
          | tup s1 s2 =>
            refine ⟨_, rfl, _, _, _, _, _, rfl, .ty "tuple", ty_sq s1, kit_ty (by decide +kernel), true, rfl, iteT ?_⟩
            refine ⟨Evl.sz_of (by simp), fun p5 hp5 => ⟨_, rfl, ?_⟩⟩
            have x5 := ex_new (o := .tup [V.str "InvalidText"]) hp5
            refine catA (.of upd_same) (Evl.ex_t x5 s1) (by rw [dps_len s2]; simp) fun p6 H6 x6 s6 => ?_
            exact ⟨p6, _, rfl, .tup s6 (.cons (.str _) (dps_ex (x5.trans x6) s2)), x5.trans x6⟩
        | ok ck =>
          obtain ⟨c, k⟩ := ck
          rw [hq] at rel dp
          have rel : (k < (rowsT ls3).length ∧ readM (rowsT ls3) = .error (k, 0)) ∨ (¬ k < (rowsT ls3).length ∧ readM (rowsT ls3) = .ok c) := rel
          have cok := readS_ok okr okl hq
          cases dp with
          | lst s1 s2 =>
            cases s2 with
            | cons dc s2 =>
            cases s2 with
            | cons dk s2 =>
            cases s2
            cases dk
            refine ⟨_, rfl, _, _, _, _, _, rfl, .ty "tuple", ty_sl s1, kit_ty (by decide +kernel), false, rfl, iteF ?_⟩
            cases dc with
            | tup c1 c2 =>
            rename_i la5 _ ca cxs
            refine ⟨_, rfl, _, _, 1, .int k, rfl, rfl, s1, rfl, _, rfl, _, _, rfl, .inl (.of e4), _, _, rfl, rfl, _, rfl, ifB (fun el => ?_) (fun el => ?_)⟩
            · rw [List.length_map] at el
              have el := of_decide_eq_true el
              have rel : readM (rowsT ls3) = .error (k, 0) := by
                rcases rel with ⟨_, e⟩ | ⟨h, _⟩
                · exact e
                · rw [hz3] at h
                  omega
              rw [seenD_err rel]
              refine ⟨_, rfl, _, _, 1, .int k, rfl, rfl, s1, rfl, Evl.sz_of (by simp), fun p5 hp5 => ?_⟩
              exact ⟨p5, _, rfl, .tup (.of upd_same) (.cons (.str _) (.cons (.int _) (.cons (.int _) .nil))), ex_new hp5⟩
            · rw [List.length_map] at el
              have el := of_decide_eq_false el
              have rel : readM (rowsT ls3) = .ok c := by
                rcases rel with ⟨h, _⟩ | ⟨_, e⟩
                · rw [hz3] at h
                  omega
                · exact e
              refine ⟨_, rfl, _, _, 0, .ref ca, rfl, rfl, s1, rfl, ca, c, rfl, .tup c1 c2, cok.wf, cok.il, cok.fl, fun v H5 x5 ev => ?_⟩
              have s15 := Evl.ex_l x5 s1
              have c15 := Evl.ex_t x5 c1
              have c25 := dps_ex x5 c2
              cases hw : wrongIx c with
              | none =>
                rw [hw] at ev
                subst ev
                rw [seenD_ok rel hw]
                refine ⟨_, rfl, rfl, _, rfl, iteT ?_⟩
                refine ⟨Evl.sz_of (by simp), fun p5 hp5 => ?_⟩
                have x6 := ex_new (o := .tup [V.str "chart"]) hp5
                refine ⟨_, rfl, _, _, 0, .ref ca, rfl, rfl, Evl.ex_l x6 s15, rfl, ?_⟩
                refine catA (.of upd_same) (Evl.ex_t x6 c15) (by rw [dps_len c25]; simp [chartD]) fun p6 H6 x7 s6 => ?_
                exact ⟨p6, _, rfl, .tup s6 (.cons (.str _) (dps_ex (x6.trans x7) c25)), x5.trans (x6.trans x7)⟩
              | some i =>
                rw [hw] at ev
                subst ev
                rw [seenD_bad rel hw]
                refine ⟨_, rfl, rfl, _, rfl, iteF ?_⟩
                refine ⟨_, rfl, Evl.sz_of (by simp), fun p5 hp5 => ?_⟩
                exact ⟨p5, _, rfl, .tup (.of upd_same) (.cons (.str _) (.cons (.int _) .nil)), x5.trans (ex_new hp5)⟩
      · rintro σ' G5 ⟨d, o6, rfl, dd, x5⟩
        have e5 := x5 _ _ e4
        obtain ⟨j1, j2, j3, j4, j5⟩ := jl
        refine ⟨rfl, _, rfl, _, p3, ls3, rfl, rfl, .inl (.of e5), j1, _, rfl, j2, j3, j4, fun v6 H6 x6 d6 => ⟨_, rfl, v6, .ref d, _, rfl, d6, by rw [j5]; exact dp_ex x6 dd, by rw [j5]; exact lw, fun H7 x7 => ?_⟩⟩
        exact ⟨true, rfl, iteF ⟨_, _, _, _, _, rfl, hg3.ex (x4.trans (x5.trans (x6.trans x7)))⟩⟩
    · rintro σ G ⟨o2, o3, o4, o5, o6, rfl, hg⟩
      refine ⟨rfl, Evl.sz_of (by simp), fun l1 h1 => ⟨Evl.sz_of (by simp), fun l2 h2 => ⟨l2, 13, [.str "."], rfl, rfl, upd_same, by decide, by decide, Evl.sz_of (by simp), fun l3 h3 => ?_⟩⟩⟩
      have y1 := (ex_new (o := .lst [V.str "."]) h2) _ _ (upd_same (H := G) (a := l1) (o := .lst [V.str "island"]))
      refine ⟨l1, l3, [.str "island"], _, rfl, rfl, ex_new h3 _ _ y1, upd_same, Evl.sz_of (by simp), fun l4 h4 => ⟨Evl.sz_of (by simp), fun l5 h5 => ⟨l4, l5, _, [.str "from . north"], rfl, rfl, ex_new h5 _ _ upd_same, upd_same, Evl.sz_of (by simp), fun l6 h6 => ?_⟩⟩⟩
      refine ⟨_, l6, wideL, rfl, rfl, .inl (.of upd_same), wide_ok.2.2, ?_⟩
      refine ⟨_, rfl, Evl.sz_of (by simp), fun pt hpt => ⟨pt, rfl, ⟨fiveT.map V.str, .of upd_same⟩, fun D hD => ?_⟩⟩
      refine lcD (K := K) (S := []) (g := gName 9) (walk_tup (K := K) (a := pt) (xs := fiveT.map V.str)) hD (fun _ => True) (fun m ds => ds = (fiveP.take m).map itD) (by simp) (by decide) (fun _ _ _ => trivial) (fun H' k _ => Evl.ex_t k.ex (.of upd_same)) trivial rfl ?_ ?_
      · rintro m x Ha Hb ds P1 P2 hm rfl k1 _ ⟨rfl, hx⟩ c1 c2
        rw [List.getElem?_map, Option.map_eq_some_iff] at hx
        obtain ⟨z, hz2, rfl⟩ := hx
        obtain ⟨⟨z1, z2, z3⟩, i, hi, es⟩ := five_ok m z hz2
        refine ⟨rfl, tY ⟨_, rfl, z, rfl, z1, z2, z3, fun v H' x' dp => ?_⟩⟩
        rw [es] at dp
        exact c1 _ _ _ (.of x') trivial dp (itD_ok i) (by rw [List.take_add_one, hi, List.map_append]; rfl)
      · rintro G7 ds k1 _ nd rfl _
        have nd : NewL K G7 D (fiveP.map itD) := nd
        refine ⟨_, rfl, Evl.sz_of (by simp), fun p1 q1 => ⟨Evl.sz_of (by simp), fun p2 q2 => ⟨Evl.sz_of (by simp), fun p3 q3 => ⟨Evl.sz_of (by simp), fun p4 q4 => ⟨Evl.sz_of (by simp), fun p5 q5 => ⟨Evl.sz_of (by simp), fun p6 q6 => ?_⟩⟩⟩⟩⟩⟩
        have f2 := ex_new (o := .tup [V.int 1, V.int 0]) q2
        have f3 := ex_new (o := .tup [V.int 1, V.int 0]) q3
        have f4 := ex_new (o := .tup [V.int 2, V.int 0]) q4
        have f5 := ex_new (o := .tup [V.int 13, V.int 0]) q5
        have f6 := ex_new (o := .tup [V.ref p1, V.ref p2, V.ref p3, V.ref p4, V.ref p5]) q6
        have dd : DpAll K _ [V.ref p1, V.ref p2, V.ref p3, V.ref p4, V.ref p5] (fiveP.map fun i => PyData.tuple [.int i, .int 0]) := .cons (dp_ex ((((f2.trans f3).trans f4).trans f5).trans f6) (.tup (.of upd_same) (.cons (.int _) (.cons (.int _) .nil))))
          (.cons (dp_ex (((f3.trans f4).trans f5).trans f6) (.tup (.of upd_same) (.cons (.int _) (.cons (.int _) .nil))))
          (.cons (dp_ex ((f4.trans f5).trans f6) (.tup (.of upd_same) (.cons (.int _) (.cons (.int _) .nil))))
          (.cons (dp_ex (f5.trans f6) (.tup (.of upd_same) (.cons (.int _) (.cons (.int _) .nil))))
          (.cons (dp_ex f6 (.tup (.of upd_same) (.cons (.int _) (.cons (.int _) .nil)))) .nil))))
        have nd8 := nd.ex ((((((ex_new (o := .tup [V.int 0, V.int 0]) q1).trans f2).trans f3).trans f4).trans f5).trans f6)
        refine ⟨p6, rfl, ⟨_, .of upd_same⟩, fun D2 hD2 => ?_⟩
        refine lcD (K := K) (S := []) (g := gName 10) (walk_tup (K := K) (a := p6) (xs := [V.ref p1, V.ref p2, V.ref p3, V.ref p4, V.ref p5])) hD2 (fun _ => True) (fun m ds => ds = (fiveP.take m).map itD) (by simp) (by simp) (fun _ _ _ => trivial) (fun H' k _ => Evl.ex_t k.ex (.of upd_same)) trivial rfl ?_ ?_
        · rintro m x Ha Hb ds P1 P2 hm rfl k1 _ ⟨rfl, hx⟩ c1 c2
          obtain ⟨i, hi⟩ : ∃ i, fiveP[m]? = some i := ⟨_, List.getElem?_eq_getElem (show m < fiveP.length from hm)⟩
          obtain ⟨x', ex', dx⟩ := dps_at dd (show (fiveP.map fun i => PyData.tuple [.int i, .int 0])[m]? = some (.tuple [.int i, .int 0]) by rw [List.getElem?_map, hi]; rfl)
          rw [hx] at ex'
          cases ex'
          cases dx with
          | tup s1 s2 =>
            refine ⟨rfl, tY ⟨Evl.sz_of (by simp), fun pn hpn => ⟨_, rfl, ?_⟩⟩⟩
            have x8 := ex_new (o := .tup [V.str "InvalidText"]) hpn
            refine catA (.of upd_same) (Evl.ex_t (k1.ex.trans x8) s1) (by rw [dps_len s2]; simp) fun p9 H9 x9 s9 => ?_
            exact c1 _ (itD i) _ (.of (x8.trans x9)) trivial (.tup s9 (.cons (.str _) (dps_ex ((k1.ex.trans x8).trans x9) s2))) (itD_ok i) (by rw [List.take_add_one, hi, List.map_append]; rfl)
        · rintro G9 ds k2 _ nd2 rfl _
          have nd2 : NewL K G9 D2 (fiveP.map itD) := nd2
          obtain ⟨ya, a1, a2, _⟩ := nd8.ex k2.ex
          obtain ⟨yb, b1, b2, _⟩ := nd2
          exact ⟨.ref D, .ref D2, _, rfl, .lst (.of a1) a2, .lst (.of b1) b2, fiveD_law, fun H' _ => q H'⟩
end
end Om
end PartC13
set_option Elab.async false
set_option linter.all false
open PySem PySem.W PySem.Calls PyProof.Rows
theorem PySem.Challenge.cw_oldmap_k49_whole_wrong_texts_located_holds : PySem.Challenge.rw_oldmap_k49_whole_wrong_texts_located.Holds := by
  refine Om.holds_of (k := 11) (spL := Om.sp_law) ⟨by rfl, by decide +kernel, by decide +kernel⟩ (fun K H a ns hz hs => ⟨a, ns, rfl, hz, hs, fun _ => rfl⟩) fun w K mg base T => Om.ok_law T
