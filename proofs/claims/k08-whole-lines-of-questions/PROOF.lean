import PyProof.Rows.All
import Wide.All
import OpenK.AllK
import Wide.FinOn
import HandS.Base
import HandS.Call
import HandS.List
import HandS.Comp
import HandS.Ends
import HandS.Dict
import HandS.Iter
import HandS.Text
import HandS.Words
import HandS.WordsList
import HandS.WordsDict
import HandS.Exc
import HandS.TryOnly
import HandS.TryMany
import HandS.ExcOwn
import HandS.WordsExc
import HandS.ExcInit
import HandS.ExcField
import HandS.RaiseMore
import HandS.More
import HandS.Slots
import HandS.SlotsOwn
import HandS.ClsMeth
import HandS.Star
import HandS.MakeKw
import HandS.MakeKwOnly
import HandS.Defaults
import HandS.Codes
import HandS.DictComp
import HandS.FStr
import HandS.Evl
import HandS.Zip
import HandS.Walk
import HandS.TupAny
import HandS.StrMore
import HandS.IsInst
import HandS.Set
import HandS.SortOrd
import HandS.Wide
import HandS.Flow
import HandS.Lambda
import HandS.Nested
import KE.GoesMore
import HandS.SetFor
import PyProof.Rows.SortShellAny
import PyProof.Rows.StrCut
import HandS.Style
import HandS.EndTab
import PySem.Challenge.RW_touchrows_k08_whole_lines_of_questions
set_option Elab.async false
set_option linter.all false
section
set_option maxRecDepth 100000
set_option maxHeartbeats 4000000
/-! Where each def stands in the text, and what the top leaves of it (printed by gen_txt.py). -/
namespace K08
open PySem L2
def topS (i : Nat) : Stmt := PySem.Challenge.pw_touchrows_k08_whole_lines_of_questions.main.body.getD i (.Pass ⟨0, 0, 0, 0⟩)
abbrev s_is_integer : Stmt := topS 6
abbrev s_is_name : Stmt := topS 7
abbrev s_are_names : Stmt := topS 8
abbrev s_common_divisor : Stmt := topS 16
abbrev s_integer_in : Stmt := topS 17
abbrev s_are_columns : Stmt := topS 28
abbrev s_is_size : Stmt := topS 29
abbrev s_columns_of : Stmt := topS 30
abbrev s_are_tables : Stmt := topS 31
abbrev s_are_parts : Stmt := topS 32
abbrev s_ratio_in : Stmt := topS 33
abbrev s__law_dice : Stmt := topS 37
abbrev s__law_roll : Stmt := topS 38
abbrev s__law_pick : Stmt := topS 39
abbrev s__law_mixed : Stmt := topS 40
abbrev s__law_plain : Stmt := topS 41
abbrev s__law_names : Stmt := topS 42
abbrev s__law_columns : Stmt := topS 43
abbrev s__law_written : Stmt := topS 44
abbrev s__law_drawn : Stmt := topS 45
abbrev s__law_any : Stmt := topS 46
abbrev s__law_less : Stmt := topS 47
abbrev s__law_lowest : Stmt := topS 48
abbrev s__law_ratio_text : Stmt := topS 49
abbrev s__law_lines : Stmt := topS 50
abbrev s__law_asked : Stmt := topS 51
abbrev s__law_told : Stmt := topS 52
abbrev s__law_is_name : Stmt := topS 53
abbrev s__law_are_names : Stmt := topS 54
abbrev s__law_ratio : Stmt := topS 55
abbrev s__law_read : Stmt := topS 56
abbrev s__law_other_line : Stmt := topS 57
abbrev s__law_bent : Stmt := topS 58
abbrev s_law : Stmt := topS 59
abbrev s_ParseError_init : Stmt := inClass (topS 13) 0
abbrev s_Ratio_init : Stmt := inClass (topS 18) 1
abbrev s_Ratio_of_text : Stmt := inClass (topS 18) 2
abbrev s_Ratio_top : Stmt := inClass (topS 18) 3
abbrev s_Ratio_bottom : Stmt := inClass (topS 18) 4
abbrev s_Ratio_eq : Stmt := inClass (topS 18) 14
abbrev s_Ratio_str : Stmt := inClass (topS 18) 15
abbrev s_QuestionLines_init : Stmt := inClass (topS 34) 0
abbrev s_QuestionLines_takes_line : Stmt := inClass (topS 34) 1
abbrev s_QuestionLines_takes_table : Stmt := inClass (topS 34) 2
abbrev s_QuestionLines_takes_size : Stmt := inClass (topS 34) 3
abbrev s_QuestionLines_takes_groups : Stmt := inClass (topS 34) 4
abbrev s_QuestionLines_whole : Stmt := inClass (topS 34) 5
abbrev s_Question_init : Stmt := inClass (topS 35) 1
abbrev s_Question_from_lines : Stmt := inClass (topS 35) 2
abbrev s_Question_lines : Stmt := inClass (topS 35) 8
/-- a def of the text as it stands behind the top, no positional defaults -/
abbrev FnP (K : PySem.W.Frag) (x q : Str) (st : Stmt) (kws : List (Str × V)) (f : Addr) (fd : FuncData) : Prop := FunD K x q (defArgs st) (defBody st) (defScope st) [] kws f fd
/-- a def of the module -/
structure DefA (K : PySem.W.Frag) (mg : Str → Option Value) (x : Str) (st : Stmt) where
  f : Addr
  fd : FuncData
  F : FnP K x x st [] f fd
  g : mg x = some (.ref f)
/-- .. that makes lambdas: its code object at c, the code objects' table at tab -/
structure DefC (K : PySem.W.Frag) (mg : Str → Option Value) (x : Str) (st : Stmt) extends DefA K mg x st where
  c : Addr
  tab : Addr
  lk : ∃ (oc : Value) (od an : Option Addr) (osl : Array (Option Value)) (kV doc pm ct : Value), K.lookup f = some ⟨oc, od, .func (PySem.W.fnOf x x (defArgs st) (defBody st) (defScope st) .none kV doc pm an (.ref c) ct), osl⟩
  hc : PySem.W.codeIn K (.ref c) x = true
  hd : ∀ h : Heap, K.In h → PySem.W.CodeHd h c tab
/-- a plain method of the class at C -/
structure MetA (K : PySem.W.Frag) (C : Addr) (x q : Str) (st : Stmt) (kws : List (Str × V)) where
  f : Addr
  fd : FuncData
  F : FnP K x q st kws f fd
  m : Meth K C x f
/-- a property of the class at C -/
structure PropA (K : PySem.W.Frag) (C : Addr) (x q : Str) (st : Stmt) where
  f : Addr
  fd : FuncData
  F : FnP K x q st [] f fd
  p : Addr
  at_ : PySem.W.findIn K (.ref C) x = some (some (.ref p))
  get : PySem.W.specialIn K (.ref p) "__get__" = some (some (.builtin "property.__get__"))
  tk : PySem.W.takesIn K (.ref p) = some true
  rc : ∃ rest, PySem.W.recIn K p "property" = some (.ref f :: rest)
/-- a classmethod of the class at C -/
structure CmA (K : PySem.W.Frag) (C : Addr) (mc : Value) (x q : Str) (st : Stmt) where
  f : Addr
  fd : FuncData
  F : FnP K x q st [] f fd
  p : Addr
  c : ClX.CMet K C mc x p f
/-- a slot of the class at C -/
structure SlA (K : PySem.W.Frag) (C : Addr) (x : Str) (i : Nat) where
  p : Addr
  s : SlX.Slot1 K C x p i
/-- a class with slots -/
structure SlCls (K : PySem.W.Frag) (mg : Str → Option Value) (x : Str) where
  C : Addr
  g : mg x = some (.ref C)
  sc : SlX.SCls K C
  si : SlX.SIsi K C
  rd : ClX.CRead K C (.type "type")
  mks : PySem.W.makesIn K C = true
  kc : PySem.W.keepIn K (.ref C) = true
/-- an exception class without an own __init__ -/
structure ExA (K : PySem.W.Frag) (mg : Str → Option Value) (x : Str) where
  C : Addr
  g : mg x = some (.ref C)
  ex : PySem.W.excIn K C [.type "ValueError", .type "Exception", .type "BaseException", .type "object"] "ValueError.__new__" = true
  kc : PySem.W.keepIn K (.ref C) = true
  sb : PySem.W.subIn K (.ref C) (.type "BaseException") = some true
  ty : PySem.W.typeIn K (.ref C) = some (.type "type")

structure Txt (K : PySem.W.Frag) (mg : Str → Option Value) where
  is_integer : DefA K mg "is_integer" s_is_integer
  is_name : DefA K mg "is_name" s_is_name
  are_names : DefA K mg "are_names" s_are_names
  common_divisor : DefA K mg "common_divisor" s_common_divisor
  integer_in : DefA K mg "integer_in" s_integer_in
  are_columns : DefA K mg "are_columns" s_are_columns
  is_size : DefA K mg "is_size" s_is_size
  columns_of : DefA K mg "columns_of" s_columns_of
  are_tables : DefA K mg "are_tables" s_are_tables
  are_parts : DefA K mg "are_parts" s_are_parts
  ratio_in : DefA K mg "ratio_in" s_ratio_in
  l_dice : DefA K mg "_law_dice" s__law_dice
  l_roll : DefA K mg "_law_roll" s__law_roll
  l_pick : DefA K mg "_law_pick" s__law_pick
  l_mixed : DefA K mg "_law_mixed" s__law_mixed
  l_plain : DefA K mg "_law_plain" s__law_plain
  l_names : DefA K mg "_law_names" s__law_names
  l_columns : DefA K mg "_law_columns" s__law_columns
  l_written : DefA K mg "_law_written" s__law_written
  l_drawn : DefA K mg "_law_drawn" s__law_drawn
  l_any : DefA K mg "_law_any" s__law_any
  l_less : DefA K mg "_law_less" s__law_less
  l_lowest : DefA K mg "_law_lowest" s__law_lowest
  l_ratio_text : DefA K mg "_law_ratio_text" s__law_ratio_text
  l_lines : DefA K mg "_law_lines" s__law_lines
  l_asked : DefC K mg "_law_asked" s__law_asked
  l_told : DefA K mg "_law_told" s__law_told
  l_is_name : DefA K mg "_law_is_name" s__law_is_name
  l_are_names : DefA K mg "_law_are_names" s__law_are_names
  l_ratio : DefA K mg "_law_ratio" s__law_ratio
  l_read : DefA K mg "_law_read" s__law_read
  l_other_line : DefA K mg "_law_other_line" s__law_other_line
  l_bent : DefA K mg "_law_bent" s__law_bent
  askT : l_asked.tab = 585
  InvalidRatio : ExA K mg "InvalidRatio"
  InvalidQuestion : ExA K mg "InvalidQuestion"
  peC : Addr
  peG : mg "ParseError" = some (.ref peC)
  peO : OexC K peC
  peX : XfC K peC
  peN : PySem.W.findIn K (.ref peC) "number" = some none
  peI : MetA K peC "__init__" "ParseError.__init__" s_ParseError_init []
  exRR : PySem.W.exmOne K (.ref InvalidRatio.C) (.ref InvalidRatio.C) = some true
  exPP : PySem.W.exmOne K (.ref peC) (.ref peC) = some true
  exQP : PySem.W.exmOne K (.ref InvalidQuestion.C) (.ref peC) = some false
  exQQ : PySem.W.exmOne K (.ref InvalidQuestion.C) (.ref InvalidQuestion.C) = some true
  Ratio : SlCls K mg "Ratio"
  ratTop : SlA K Ratio.C "own_top" 1
  ratBot : SlA K Ratio.C "own_bottom" 0
  Ratio_init : MetA K Ratio.C "__init__" "Ratio.__init__" s_Ratio_init [("is_exact", .bl false)]
  Ratio_of_text : CmA K Ratio.C (.type "type") "of_text" "Ratio.of_text" s_Ratio_of_text
  Ratio_top : PropA K Ratio.C "top" "Ratio.top" s_Ratio_top
  Ratio_bottom : PropA K Ratio.C "bottom" "Ratio.bottom" s_Ratio_bottom
  Ratio_eq : MetA K Ratio.C "__eq__" "Ratio.__eq__" s_Ratio_eq []
  Ratio_str : MetA K Ratio.C "__str__" "Ratio.__str__" s_Ratio_str []
  ratKit : PySem.W.kitOne K (.ref Ratio.C) (.ref Ratio.C) = some true
  ratNF : PySem.W.notFirst K Ratio.C (.ref Ratio.C) = true
  ratFmt : PySem.W.findIn K (.ref Ratio.C) "__format__" = some (some (.builtin "object.__format__"))
  ratNe : PySem.W.findIn K (.ref Ratio.C) "__ne__" = some (some (.builtin "object.__ne__"))
  qlC : Addr
  qlG : mg "QuestionLines" = some (.ref qlC)
  qlCls : Cls K qlC
  qlMk : PySem.W.makesIn K qlC = true
  qlK : PySem.W.keepIn K (.ref qlC) = true
  qlT : NoAttr K qlC "own_tables"
  qlS : NoAttr K qlC "own_sizes"
  qlP : NoAttr K qlC "own_groups"
  QuestionLines_init : MetA K qlC "__init__" "QuestionLines.__init__" s_QuestionLines_init []
  QuestionLines_takes_line : MetA K qlC "takes_line" "QuestionLines.takes_line" s_QuestionLines_takes_line []
  QuestionLines_takes_table : MetA K qlC "takes_table" "QuestionLines.takes_table" s_QuestionLines_takes_table []
  QuestionLines_takes_size : MetA K qlC "takes_size" "QuestionLines.takes_size" s_QuestionLines_takes_size []
  QuestionLines_takes_groups : MetA K qlC "takes_groups" "QuestionLines.takes_groups" s_QuestionLines_takes_groups []
  QuestionLines_whole : MetA K qlC "whole" "QuestionLines.whole" s_QuestionLines_whole []
  Question : SlCls K mg "Question"
  qs0 : SlA K Question.C "own_columns" 0
  qs1 : SlA K Question.C "own_groups" 1
  qs2 : SlA K Question.C "own_lines" 2
  qs3 : SlA K Question.C "own_sizes" 3
  qs4 : SlA K Question.C "own_tables" 4
  Question_init : MetA K Question.C "__init__" "Question.__init__" s_Question_init [("sizes", .non)]
  Question_from_lines : CmA K Question.C (.type "type") "from_lines" "Question.from_lines" s_Question_from_lines
  Question_lines : PropA K Question.C "lines" "Question.lines" s_Question_lines
  k_MAX_LETTERS : ∃ u, mg "MAX_LETTERS" = some u ∧ RelV (.int 8) u
  k_MAX_FIGURES : ∃ u, mg "MAX_FIGURES" = some u ∧ RelV (.int 60) u
  k_ALPHABET : ∃ u, mg "ALPHABET" = some u ∧ RelV (.str "abcdefghijklmnopqrstuvwxyz") u
  k_LIMIT : ∃ u, mg "LIMIT" = some u ∧ RelV (.int (10 ^ 60)) u
  k_FIGURES : ∃ u, mg "FIGURES" = some u ∧ RelV (.str "0123456789") u
  k_MAX_TABLES : ∃ u, mg "MAX_TABLES" = some u ∧ RelV (.int 6) u
  k_MAX_COLUMNS : ∃ u, mg "MAX_COLUMNS" = some u ∧ RelV (.int 8) u
  k_MAX_SIZE : ∃ u, mg "MAX_SIZE" = some u ∧ RelV (.int 9) u
  k_MAX_BOTTOM : ∃ u, mg "MAX_BOTTOM" = some u ∧ RelV (.int 60) u
  k_MOST : ∃ u, mg "MOST" = some u ∧ RelV (.int 6) u
  k_TABLE : ∃ u, mg "TABLE" = some u ∧ RelV (.str "table") u
  k_SIZE : ∃ u, mg "SIZE" = some u ∧ RelV (.str "size") u
  k_GROUP : ∃ u, mg "GROUP" = some u ∧ RelV (.str "group") u
  b_isinstance : mg "isinstance" = none
  b_len : mg "len" = none
  b_all : mg "all" = none
  b_zip : mg "zip" = none
  b_str : mg "str" = none
  b_int : mg "int" = none
  b_bool : mg "bool" = none
  b_tuple : mg "tuple" = none
  b_dict : mg "dict" = none
  b_list : mg "list" = none
  b_set : mg "set" = none
  b_sorted : mg "sorted" = none
  b_abs : mg "abs" = none
  b_max : mg "max" = none
  b_min : mg "min" = none
  b_range : mg "range" = none
  b_enumerate : mg "enumerate" = none
  b_repr : mg "repr" = none
  b_ValueError : mg "ValueError" = none
end K08

/-! Short words over the layer: calls of the text's defs, what sources give, comprehensions over any source. -/
namespace K08
open PySem PySem.Spec PyProof.Rows L2 Evl

/-! ### defs and calls -/
section
variable {P : Program} {w : World} {K : PySem.W.Frag} {mg : Str → Option Value} {base : Heap}
/-- a def that nothing leaves, by its body -/
theorem ok0 {x q : Str} {st : Stmt} {kws : List (Str × V)} {f : Addr} {fd : FuncData} {N ps : List Str} {k : Nat} {sp : Sp} (F : FnP K x q st kws f fd) (S : FnScope N ps (defScope st)) (len : ∀ vs H Q E, sp vs H Q E → vs.length = ps.length)
    (hb : ∀ (cdv : Value) (A : Around) (outer : List Env) (s : Shared) (H : Hp) (vs : List V) (Q : VK) (E : XK), Room k (A.deeper (envOfC q (defScope st) s.heap.objs.size f cdv)) → sp vs H Q E →
      ∃ t, PSs (cxOf CX0 P w K mg base N q (defScope st) f cdv A outer s H E).nox (defBody st) t ∧ t { nx := fun _ H' => Q .non H', rt := Q } (start N vs) H) : FnOk P w K mg base CX0 (k + 1) f fd ps sp :=
  F.ok S len fun cdv A outer s H vs Q E hr h => let ⟨t, h1, h2⟩ := hb cdv A outer s H vs Q E hr h; ⟨t, h1.nox, h2⟩
/-- a def of the module that may be called by its name; nothing leaves it -/
structure Cl (P : Program) (w : World) (K : PySem.W.Frag) (mg : Str → Option Value) (base : Heap) (k : Nat) (x : Str) (sp : Sp) : Prop where
  ex : ∃ (f : Addr) (fd : FuncData) (ps : List Str), FnOk P w K mg base CX0 k f fd ps sp ∧ mg x = some (.ref f) ∧ PySem.W.keepIn K (.ref f) = true ∧ Binds K fd ps []
theorem Cl.imp {k : Nat} {x : Str} {sp sp' : Sp} (c : Cl P w K mg base k x sp) (h : ∀ vs H Q E, sp' vs H Q E → sp vs H Q E) : Cl P w K mg base k x sp' :=
  let ⟨f, fd, ps, F, g, kp, b⟩ := c.ex; ⟨f, fd, ps, F.imp h, g, kp, b⟩
theorem cl_of {x : Str} {st : Stmt} {ps : List Str} {k : Nat} {sp : Sp} (D : DefA K mg x st) (F : FnOk P w K mg base CX0 k D.f D.fd ps sp)
    (h : ∀ (kV doc pm : Value) (an : Option Addr) (cdv ct : Value) (us : List Value), us.length = ps.length → bindArgs (PySem.W.fnOf x x (defArgs st) (defBody st) (defScope st) .none kV doc pm an cdv ct) ⟨us, []⟩ = pure (ps.zip us)) : Cl P w K mg base k x sp :=
  ⟨D.f, D.fd, ps, F, D.g, D.F.kp, D.F.bindsN h⟩
end
def tCl (sp : Sp) (t : TA) : TE := fun σ H Q => t σ H fun vs H1 => sp vs H1 Q E0
theorem PE.wk {X : Cx} {e : Expr} {t t' : TE} (h : PE X e t) (i : ∀ σ H Q, t' σ H Q → t σ H Q) : PE X e t' := ⟨fun pins s σ H Q I q => h.run pins s σ H Q I (i σ H Q q)⟩
theorem PS.wk {X : Cx} {e : Stmt} {t t' : TS} (h : PS X e t) (i : ∀ D σ H, t' D σ H → t D σ H) : PS X e t' := ⟨fun pins s σ H D I q => h.run pins s σ H D I (i D σ H q)⟩
section
variable {X : Cx} {e : Expr} {es : List Expr} {t : TA}
theorem pe_cl {k j : Nat} {x : Str} {sp : Sp} {p pos : Pos} (c : Cl X.prog X.w X.K X.mg X.base k x sp) (hr : Room j X.A) (ha : PA X (e :: es) t) (hk : k ≤ j := by decide) (hg : Gl X x := by rfl) (hdb : (x == ("__debug__" : Str)) = false := by decide)
    (he : starEach (e :: es) X.env = (false, eval e X.env) :: starEach es X.env := by rfl) (hpl : (backTo pos (starEach es X.env)).any (·.1) = false := by rfl) : PE X (.Call (.Name x p) (e :: es) [] pos) (tCl sp t) := by
  obtain ⟨f, fd, ps, F, g, kp, b⟩ := c.ex
  refine PE.wk (pe_call F (hr.mono hk) hg g kp b .nil pass0 ha hdb he hpl) fun σ H Q h => ?_
  have ea : (fun (vs : List V) (H1 : Hp) => sp (vs ++ []) H1 Q E0) = fun vs H1 => sp vs H1 Q E0 := by
    funext vs H1
    rw [List.append_nil]
  show t σ H fun vs H1 => sp (vs ++ []) H1 Q E0
  rw [ea]
  exact h
/-- a module's constant -/
theorem pe_k {x : Str} {v : V} {pos : Pos} (h : ∃ u, X.mg x = some u ∧ RelV v u) (hg : Gl X x := by rfl) (hd : (x == ("__debug__" : Str)) = false := by decide) : PE X (.Name x pos) (tC v) := by
  obtain ⟨u, hm, r⟩ := h
  exact pe_glob hg hm r hd
/-- a built-in type's name as a value -/
theorem pe_ty {x : Str} {n : String} {pos : Pos} (hm : X.mg x = none) (hv : bootBuiltins x = some (.type n) := by decide +kernel) (hg : Gl X x := by rfl) (hn : x ≠ "__name__" := by decide) (hd : (x == ("__debug__" : Str)) = false := by decide) : PE X (.Name x pos) (tC (.ty n)) :=
  pe_bltn hg hm hv rfl hn hd
end

/-! ### readings by name -/
abbrev rPlus : R2 := rI0 fun i j => .int (i + j)
abbrev rMinus : R2 := rI0 fun i j => .int (i - j)
abbrev rTimes : R2 := rI CMul fun i j => .int (i * j)
abbrev rTimesW : R2 := rI CMulW fun i j => .int (i * j)
abbrev rModP : R2 := rI (fun _ j => 0 < j) fun i j => .int (i % j)
abbrev rDivP : R2 := rI CDiv fun i j => .int (i / j)
abbrev rDivW : R2 := rI CDivW fun i j => .int (i / j)
abbrev rPow : R2 := rI CPow fun i j => .int (i ^ j.toNat)
abbrev rLtI : R2 := rI0 fun i j => .bl (decide (i < j))
abbrev rLeI : R2 := rI0 fun i j => .bl (decide (i ≤ j))
abbrev rGtI : R2 := rI0 fun i j => .bl (decide (j < i))
abbrev rGeI : R2 := rI0 fun i j => .bl (decide (j ≤ i))
abbrev rLtS : R2 := fun x y H Q => ∃ i j, x = .str i ∧ y = .str j ∧ Q (.bl (decide (i.cps.toList < j.cps.toList))) H
abbrev rCatS : R2 := fun x y H Q => ∃ i j, x = .str i ∧ y = .str j ∧ i.length + j.length ≤ sizeLine ∧ Q (.str (i ++ j)) H
abbrev rInSg : R2 := fun x y H Q => ∃ (c : Nat) (z : Str), x = .str ⟨#[c]⟩ ∧ y = .str z ∧ Q (.bl (decide (c ∈ z.cps.toList))) H
abbrev rIsNn : R2 := fun x y H Q => y = .non ∧ Q (.bl (decide (x = .non))) H
abbrev rNotNn : R2 := fun x y H Q => y = .non ∧ Q (.bl (!decide (x = .non))) H
abbrev rNegI : V → Hp → VK → Prop := rU fun i => .int (-i)

section
variable {K : PySem.W.Frag} {σ : L2.St} {H H' : Hp} {ta tb tc te tx : TE} {t u : TT} {x y z v : V} {r r' : R2}
theorem ev_cl {sp : Sp} {vs : List V} {ta : TA} (h : EvA ta σ H vs) (hs : SpV sp vs H z) : Ev (tCl sp ta) σ H z := fun H1 e Q q =>
  h H1 e _ fun H2 e2 => hs H2 (e.trans e2) Q (fun H3 e3 => q H3 (e2.trans e3)) E0
theorem el_cl {sp : Sp} {vs xs : List V} {ta : TA} (h : EvA ta σ H vs) (hs : SpL sp vs H xs) : EvL (tCl sp ta) σ H xs := fun H1 e Q q =>
  h H1 e _ fun H2 e2 => hs H2 (e.trans e2) Q (fun p H3 hp e3 h3 => q p H3 (fresh_back e2 hp) (e2.trans e3) h3) E0
theorem ev_isi {c : V} {t u : Value} {b : Bool} (ha : Ev ta σ H x) (hb : Ev tb σ H c) (cl : ClsV c u) (ty : ∀ H1, Ex H H1 → TyX K H1 x t) (k : PySem.W.kitOne K t u = some b) : Ev (tCB (rIsi K) (tCons ta (tCons tb tNil))) σ H (.bl b) := fun H1 e Q q =>
  ha H1 e _ fun H2 e2 => hb H2 (e.trans e2) _ fun H3 e3 => ⟨x, c, t, u, b, rfl, cl, ty H3 ((e.trans e2).trans e3), k, q H3 (e2.trans e3)⟩
theorem ev_chain {b1 b2 : Bool} (ha : Ev ta σ H x) (hb : Ev tb σ H y) (h1 : RV r x y H (.bl b1)) (hc : b1 = true → Ev tc σ H z) (h2 : b1 = true → RV r' y z H (.bl b2)) : Ev (tChain r r' ta tb tc) σ H (.bl (b1 && b2)) := fun H1 e Q q =>
  ha H1 e _ fun H2 e2 => hb H2 (e.trans e2) _ fun H3 e3 => h1 H3 ((e.trans e2).trans e3) _ fun H4 e4 => ⟨b1, rfl, by
    cases b1 with
    | false => exact q H4 ((e2.trans e3).trans e4)
    | true =>
      show tc σ H4 _
      exact hc rfl H4 (((e.trans e2).trans e3).trans e4) _ fun H5 e5 => h2 rfl H5 ((((e.trans e2).trans e3).trans e4).trans e5) Q fun H6 e6 => q H6 ((((e2.trans e3).trans e4).trans e5).trans e6)⟩
theorem rv_ltS {a b : Str} : RV rLtS (.str a) (.str b) H (.bl (decide (a.cps.toList < b.cps.toList))) := fun H1 _ Q q => ⟨a, b, rfl, rfl, q H1 (Ex.refl H1)⟩
theorem rv_inSg {c : Nat} {a : Str} : RV rInSg (.str ⟨#[c]⟩) (.str a) H (.bl (decide (c ∈ a.cps.toList))) := fun H1 _ Q q => ⟨c, a, rfl, rfl, q H1 (Ex.refl H1)⟩
theorem rv_isNn : RV rIsNn x .non H (.bl (decide (x = .non))) := fun H1 _ Q q => ⟨rfl, q H1 (Ex.refl H1)⟩
theorem rv_notNn : RV rNotNn x .non H (.bl (!decide (x = .non))) := fun H1 _ Q q => ⟨rfl, q H1 (Ex.refl H1)⟩
theorem rv_catS {a b : Str} (h : a.length + b.length ≤ 100000) : RV rCatS (.str a) (.str b) H (.str (a ++ b)) := fun H1 _ Q q => ⟨a, b, rfl, rfl, sz_of h, q H1 (Ex.refl H1)⟩
/-- len of a text -/
abbrev rLenStr : List V → Hp → VK → Prop := fun xs H Q => ∃ z, xs = [.str z] ∧ z.length ≤ sizeLine ∧ Q (.int z.length) H
theorem ev_lenS {a : Str} (ha : Ev ta σ H (.str a)) (h : a.length ≤ 100000) : Ev (tCB rLenStr (tCons ta tNil)) σ H (.int a.length) := fun H1 e Q q =>
  ha H1 e _ fun H2 e2 => ⟨a, rfl, sz_of h, q H2 e2⟩
end

/-! ### what a source gives -/
/-- the items xs, in their order; the heap stays -/
def WalkV (J : It) (H0 : Hp) (xs : List V) : Prop := Walk J xs.length (fun H => Ex H0 H) (fun i H x H' => H' = H ∧ xs[i]? = some x)
/-- pairs, each a new tuple -/
def WalkP (J : It) (H0 : Hp) (ps : List (V × V)) : Prop := Walk J ps.length (fun H => Ex H0 H) (fun i H x H' => ∃ T p, ps[i]? = some p ∧ x = .ref T ∧ H T = none ∧ H' = upd H T (.tup [p.1, p.2]))
def Src (wi : TI) (σ : L2.St) (H : Hp) (xs : List V) : Prop := ∀ H1, Ex H H1 → ∀ R : It → Hp → Prop, (∀ J H2, Ex H1 H2 → WalkV J H2 xs → R J H2) → wi σ H1 R
def SrcP (wi : TI) (σ : L2.St) (H : Hp) (ps : List (V × V)) : Prop := ∀ H1, Ex H H1 → ∀ R : It → Hp → Prop, (∀ J H2, Ex H1 H2 → WalkP J H2 ps → R J H2) → wi σ H1 R
section
variable {K : PySem.W.Frag} {σ : L2.St} {H : Hp} {te : TE} {a : Addr} {xs : List V}
theorem src_list (h : Ev te σ H (.ref a)) (hx : SqL K H a xs) : Src (iList K te) σ H xs := fun H1 e R q => h H1 e _ fun H2 e2 =>
  ⟨a, rfl, ⟨xs, ex_l (e.trans e2) hx⟩, q _ H2 e2 (walk_list.mono (fun H3 e3 => ex_l e3 (ex_l (e.trans e2) hx)) fun i H3 x H4 _ _ y => y)⟩
theorem src_newL (h : EvL te σ H xs) : Src (iList K te) σ H xs := fun H1 e R q => h H1 e _ fun p H2 hp e2 hx =>
  ⟨p, rfl, ⟨xs, SqL.of hx⟩, q _ H2 e2 (walk_list.mono (fun H3 e3 => ex_l e3 (SqL.of hx)) fun i H3 x H4 _ _ y => y)⟩
theorem src_tup (h : Ev te σ H (.ref a)) (hx : SqT K H a xs) : Src (iTup K te) σ H xs := fun H1 e R q => h H1 e _ fun H2 e2 =>
  ⟨a, rfl, ⟨xs, ex_t (e.trans e2) hx⟩, q _ H2 e2 (walk_tup.mono (fun H3 e3 => ex_t e3 (ex_t (e.trans e2) hx)) fun i H3 x H4 _ _ y => y)⟩
/-- the signs of a text -/
def sgn (z : Str) : List V := z.cps.toList.map fun c => V.str ⟨#[c]⟩
theorem src_str {z : Str} (h : Ev te σ H (.str z)) : Src (iStr te) σ H (sgn z) := fun H1 e R q => h H1 e _ fun H2 e2 => by
  refine ⟨z, rfl, q _ H2 e2 ?_⟩
  have w := walk_str (z := z)
  have e : z.cps.size = (sgn z).length := by simp [sgn]
  rw [e] at w
  refine w.mono (fun _ _ => trivial) fun i H3 x H4 hi _ ⟨e1, c, e2, e3⟩ => ⟨e1, ?_⟩
  unfold sgn
  rw [List.getElem?_map, Array.getElem?_toList, e2, e3]
  rfl
end

/-! ### list comprehensions over any source -/
section
variable {K : PySem.W.Frag} {σ : L2.St} {H : Hp} {wi : TI} {t : TT} {te : TE} {xs : List V} {ps : List (V × V)}
theorem el_lc {j : Nat} {vs : List Nat} (f : Nat → Bool) (v : Nat → V) (h : Src wi σ H xs) (hz : xs.length ≤ 40000) (hw : ∀ x, wipe ((wipe σ vs).set j (some x)) vs = wipe σ vs)
    (ht : ∀ (i : Nat) (x : V) H1, Ex H H1 → xs[i]? = some x → EvT t ((wipe σ vs).set j (some x)) H1 (f i)) (he : ∀ (i : Nat) (x : V) H1, Ex H H1 → xs[i]? = some x → f i = true → Ev te ((wipe σ vs).set j (some x)) H1 (v i)) :
    EvL (tLc wi (gName j) t te vs) σ H (given xs.length f v) := fun H0 e Q q => h H0 e _ fun J H1 e1 w Dl hD =>
  lc_it w (Cw H1 f v Dl) ⟨hD, Ex.new hD, upd_same⟩ (fun i H' _ p => p.2.1)
    (fun i x H' H'' hi p y => by
      obtain ⟨e2, hx⟩ := y
      rw [e2]
      exact ⟨hw x, cw_turn p (by omega) (ht i x H1 (e.trans e1) hx) fun hf => he i x H1 (e.trans e1) hx hf⟩)
    (fun H' p => q Dl H' (fresh_back e1 p.1) (e1.trans p.2.1) p.2.2)
/-- for a, b in pairs -/
abbrev gPair (K : PySem.W.Frag) (i j : Nat) : TG := gTup K 2 (gCons (gName i) (gCons (gName j) gNil))
theorem el_lcP {i1 i2 : Nat} {vs : List Nat} (f : Nat → Bool) (v : Nat → V) (h : SrcP wi σ H ps) (hz : ps.length ≤ 40000) (hw : ∀ x y, wipe (((wipe σ vs).set i1 (some x)).set i2 (some y)) vs = wipe σ vs)
    (ht : ∀ (i : Nat) (p : V × V) H1, Ex H H1 → ps[i]? = some p → EvT t (((wipe σ vs).set i1 (some p.1)).set i2 (some p.2)) H1 (f i)) (he : ∀ (i : Nat) (p : V × V) H1, Ex H H1 → ps[i]? = some p → f i = true → Ev te (((wipe σ vs).set i1 (some p.1)).set i2 (some p.2)) H1 (v i)) :
    EvL (tLc wi (gPair K i1 i2) t te vs) σ H (given ps.length f v) := fun H0 e Q q => h H0 e _ fun J H1 e1 w Dl hD =>
  lc_it w (Cw H1 f v Dl) ⟨hD, Ex.new hD, upd_same⟩ (fun i H' _ p => p.2.1)
    (fun i x H' H'' hi p y => by
      obtain ⟨T, pr, hp, ex, nT, e2⟩ := y
      subst ex
      rw [e2]
      refine ⟨T, _, rfl, SqT.of upd_same, rfl, _, _, rfl, _, _, rfl, rfl, hw _ _, ?_⟩
      have p' : Cw H1 f v Dl i (upd H' T (.tup [pr.1, pr.2])) := ⟨p.1, p.2.1.trans (Ex.new nT), by rw [upd_ne (ne_of_none p.2.2 nT)]; exact p.2.2⟩
      exact cw_turn p' (by omega) (ht i pr H1 (e.trans e1) hp) fun hf => he i pr H1 (e.trans e1) hp hf)
    (fun H' p => q Dl H' (fresh_back e1 p.1) (e1.trans p.2.1) p.2.2)
/-- every item gives: the results by a function of the item -/
theorem given_map {α : Type} (l : List α) (g : α → V) (d : α) : given l.length (fun _ => true) (fun i => g (l.getD i d)) = l.map g := by
  unfold given
  rw [List.filter_eq_self.mpr (fun _ _ => rfl)]
  apply List.ext_getElem?
  intro i
  rw [List.getElem?_map, List.getElem?_map]
  by_cases h : i < l.length
  · rw [List.getElem?_range h]
    simp [List.getD_eq_getElem?_getD, h]
  · rw [List.getElem?_eq_none (by simpa using h), List.getElem?_eq_none (by omega)]
    rfl
theorem getD_at {α : Type} {l : List α} {i : Nat} {x d : α} (h : l[i]? = some x) : l.getD i d = x := by
  rw [List.getD_eq_getElem?_getD, h]
  rfl
theorem et_yes {σ : L2.St} {H : Hp} : EvT tYes σ H true := fun H1 _ Q q => q H1 (Ex.refl H1)
/-- [e for x in xs], e by a function of the item -/
theorem el_map {j : Nat} {vs : List Nat} (g : V → V) (h : Src wi σ H xs) (hz : xs.length ≤ 40000) (hw : ∀ x, wipe ((wipe σ vs).set j (some x)) vs = wipe σ vs)
    (he : ∀ (x : V) H1, Ex H H1 → x ∈ xs → Ev te ((wipe σ vs).set j (some x)) H1 (g x)) : EvL (tLc wi (gName j) tYes te vs) σ H (xs.map g) := by
  rw [← given_map xs g .non]
  exact el_lc _ _ h hz hw (fun _ _ _ _ _ => et_yes) fun i x H1 e hx _ => by
    rw [getD_at hx]
    exact he x H1 e (List.mem_of_getElem? hx)
theorem el_mapP {i1 i2 : Nat} {vs : List Nat} (g : V × V → V) (h : SrcP wi σ H ps) (hz : ps.length ≤ 40000) (hw : ∀ x y, wipe (((wipe σ vs).set i1 (some x)).set i2 (some y)) vs = wipe σ vs)
    (he : ∀ (p : V × V) H1, Ex H H1 → p ∈ ps → Ev te (((wipe σ vs).set i1 (some p.1)).set i2 (some p.2)) H1 (g p)) : EvL (tLc wi (gPair K i1 i2) tYes te vs) σ H (ps.map g) := by
  rw [← given_map ps g (.non, .non)]
  exact el_lcP _ _ h hz hw (fun _ _ _ _ _ => et_yes) fun i p H1 e hp _ => by
    rw [getD_at hp]
    exact he p H1 e (List.mem_of_getElem? hp)
theorem list_range {α : Type} (l : List α) (d : α) : (List.range l.length).map (fun i => l.getD i d) = l := by
  apply List.ext_getElem?
  intro i
  rw [List.getElem?_map]
  by_cases h : i < l.length
  · rw [List.getElem?_range h]
    simp [List.getD_eq_getElem?_getD, h]
  · rw [List.getElem?_eq_none (by simpa using h), List.getElem?_eq_none (by omega)]
    rfl
theorem given_filter {α : Type} (l : List α) (f : α → Bool) (g : α → V) (d : α) : given l.length (fun i => f (l.getD i d)) (fun i => g (l.getD i d)) = (l.filter f).map g := by
  have e := list_range l d
  conv => rhs; rw [← e]
  rw [List.filter_map, List.map_map]
  rfl
/-- [e for x in xs if t] -/
theorem el_filter {j : Nat} {vs : List Nat} (f : V → Bool) (g : V → V) (h : Src wi σ H xs) (hz : xs.length ≤ 40000) (hw : ∀ x, wipe ((wipe σ vs).set j (some x)) vs = wipe σ vs)
    (ht : ∀ (x : V) H1, Ex H H1 → x ∈ xs → EvT t ((wipe σ vs).set j (some x)) H1 (f x)) (he : ∀ (x : V) H1, Ex H H1 → x ∈ xs → f x = true → Ev te ((wipe σ vs).set j (some x)) H1 (g x)) : EvL (tLc wi (gName j) t te vs) σ H ((xs.filter f).map g) := by
  rw [← given_filter xs f g .non]
  exact el_lc _ _ h hz hw (fun i x H1 e hx => by rw [getD_at hx]; exact ht x H1 e (List.mem_of_getElem? hx)) fun i x H1 e hx hf => by
    rw [getD_at hx] at hf ⊢
    exact he x H1 e (List.mem_of_getElem? hx) hf
end
end K08

namespace K08
open PySem PySem.Spec PyProof.Rows L2 Evl
/-! ### is_integer -/
def t_is_integer (K : PySem.W.Frag) : TS :=
  (tRet (tAndV (tCB (rIsi K) (tCons (tVar 0) (tCons (tC (.ty "int")) tNil))) (tAndV (tNotV (tCB (rIsi K) (tCons (tVar 0) (tCons (tC (.ty "bool")) tNil)))) (tChain rLtI rLtI (tUn rNegI (tC (.int (10 ^ 60)))) (tVar 0) (tC (.int (10 ^ 60)))))))
/-- is_integer(i), i an int -/
def isInt60 (i : Int) : Bool := decide (-(10 : Int) ^ 60 < i ∧ i < (10 : Int) ^ 60)
def sp_is_integer : Sp := fun vs H Q _ => ∃ i : Int, vs = [.int i] ∧ ∀ H', Ex H H' → Q (.bl (isInt60 i)) H'
theorem len_is_integer : ∀ vs H Q E, sp_is_integer vs H Q E → vs.length = 1 := fun vs H Q E ⟨_, e, _⟩ => by rw [e]; rfl
theorem pure_is_integer {K : PySem.W.Frag} {vs : List V} {H : Hp} {Q : VK} {E : XK} (h : sp_is_integer vs H Q E) : t_is_integer K { nx := fun _ H' => Q .non H', rt := Q } (start ["value"] vs) H := by
  obtain ⟨i, rfl, q⟩ := h
  refine s_ret ?_ q
  refine ev_is (ev_andV (ev_isi (ev_var rfl) ev_c (.ty _) (fun _ _ => .base (.int i)) (kit_ty (r := true) (by decide +kernel))) fun _ =>
    ev_andV (ev_notV (ev_isi (ev_var rfl) ev_c (.ty _) (fun _ _ => .base (.int i)) (kit_ty (r := false) (by decide +kernel)))) fun _ =>
      ev_chain (ev_un ev_c ru_neg) (ev_var rfl) rv_I0 (fun _ => ev_c) fun _ => rv_I0) ?_
  unfold isInt60
  rw [Bool.decide_and]
  rfl
theorem sc_is_integer : FnScope ["value"] ["value"] (defScope s_is_integer) := ⟨rfl, rfl, rfl, by decide +kernel, rfl, by decide +kernel, by decide +kernel⟩
theorem d_is_integer {P : Program} {w : World} {K : PySem.W.Frag} {mg : Str → Option Value} {base : Heap} (T : Txt K mg) {f : Addr} {cdv : Value} {A : Around} {outer : List Env} {s : Shared} {H : Hp} {E : XK} (hr : Room 0 (A.deeper (envOfC "is_integer" (defScope s_is_integer) s.heap.objs.size f cdv))) :
    PSs (cxOf CX0 P w K mg base ["value"] "is_integer" (defScope s_is_integer) f cdv A outer s H E).nox (defBody s_is_integer) (t_is_integer K) := by
  have hu := hu_of hr
  exact (pss_one (ps_ret (pe_and (pe_callB call_isi (by rfl) T.b_isinstance (by decide +kernel) (pa_cons (pv 0) (pa_cons (pe_ty T.b_int) pa_nil))) (pe_and (pe_not (pe_callB call_isi (by rfl) T.b_isinstance (by decide +kernel) (pa_cons (pv 0) (pa_cons (pe_ty T.b_bool) pa_nil)))) (pe_one (pe_chain op_lt op_lt (pe_un un_neg (pe_k T.k_LIMIT)) (pv 0) (pe_k T.k_LIMIT)))))))
theorem ok_is_integer {P : Program} {w : World} {K : PySem.W.Frag} {mg : Str → Option Value} {base : Heap} (T : Txt K mg) : FnOk P w K mg base CX0 1 T.is_integer.f T.is_integer.fd ["value"] (sp_is_integer) :=
  ok0 T.is_integer.F sc_is_integer len_is_integer fun cdv A outer s H vs Q E hr h => ⟨t_is_integer K, d_is_integer T hr, pure_is_integer h⟩
theorem cl_is_integer {P : Program} {w : World} {K : PySem.W.Frag} {mg : Str → Option Value} {base : Heap} (T : Txt K mg) : Cl P w K mg base 1 "is_integer" sp_is_integer := cl_of T.is_integer (ok_is_integer T) fun _ _ _ _ _ _ us hl => match us, hl with | [_], _ => rfl

/-! ### is_name -/
def t_is_name (K : PySem.W.Frag) : TS :=
  (tSeq (tIfS (tOr (tNot (tB (tCB (rIsi K) (tCons (tVar 0) (tCons (tC (.ty "str")) tNil))))) (tNot (tTest (tChain rLeI rLeI (tC (.int 1)) (tCB rLenStr (tCons (tVar 0) tNil)) (tC (.int 8)))))) (tRet (tC (.bl false))) tNext)
    (tRet (tCB (rAll K) (tCons (tLc (iStr (tVar 0)) (gName 1) tYes (tOp rInSg (tVar 1) (tC (.str "abcdefghijklmnopqrstuvwxyz"))) [1]) tNil))))
/-- the small letters -/
def abc : Str := "abcdefghijklmnopqrstuvwxyz"
/-- one to eight letters -/
def isName (z : Str) : Bool := decide (1 ≤ z.length ∧ z.length ≤ 8) && z.cps.toList.all fun c => decide (c ∈ abc.cps.toList)
def sp_is_name : Sp := fun vs H Q _ => ∃ z : Str, vs = [.str z] ∧ z.length ≤ 40000 ∧ ∀ H', Ex H H' → Q (.bl (isName z)) H'
theorem len_is_name : ∀ vs H Q E, sp_is_name vs H Q E → vs.length = 1 := fun vs H Q E ⟨_, e, _⟩ => by rw [e]; rfl
theorem len_eq (z : Str) : z.length = z.cps.toList.length := by simp [Str.length]
/-- all(bs) of a new list -/
theorem ev_allN {K : PySem.W.Frag} {σ : L2.St} {H : Hp} {ta : TE} {bs : List Bool} (ha : EvL ta σ H (bs.map V.bl)) : Ev (tCB (rAll K) (tCons ta tNil)) σ H (.bl (bs.all id)) := fun H1 e Q q =>
  ha H1 e _ fun p H2 hp e2 hx => ⟨p, bs, rfl, SqL.of hx, q H2 e2⟩
theorem pure_is_name {K : PySem.W.Frag} {vs : List V} {H : Hp} {Q : VK} {E : XK} (h : sp_is_name vs H Q E) : t_is_name K { nx := fun _ H' => Q .non H', rt := Q } (start ["value", "letter"] vs) H := by
  obtain ⟨z, rfl, hz, q⟩ := h
  refine q_when (et_or (et_not (et_B (ev_isi (ev_var rfl) ev_c (.ty _) (fun _ _ => .base (.str z)) (kit_ty (r := true) (by decide +kernel))))) fun _ =>
    et_not (et_test (ev_chain ev_c (ev_lenS (ev_var rfl) (by omega)) rv_I0 (fun _ => ev_c) fun _ => rv_I0))) (fun hb H1 e1 => ?_) (fun hb H1 e1 => ?_)
  · refine s_ret ev_c fun H2 e2 => ?_
    have e : isName z = false := by
      unfold isName
      have hn : ¬ (1 ≤ z.length ∧ z.length ≤ 8) := fun hc => by
        have h1 : decide ((1 : Int) ≤ (z.length : Int)) = true := decide_eq_true (by omega)
        have h2 : decide ((z.length : Int) ≤ 8) = true := decide_eq_true (by omega)
        simp [h1, h2] at hb
      rw [decide_eq_false hn]
      rfl
    have q' := q H2 (e1.trans e2)
    rw [e] at q'
    exact q'
  · refine s_ret (ev_allN (bs := z.cps.toList.map fun c => decide (c ∈ abc.cps.toList)) ?_) fun H2 e2 => ?_
    · have em : ((z.cps.toList.map fun c => decide (c ∈ abc.cps.toList)).map V.bl) = (sgn z).map fun v => match v with | .str y => .bl (decide (y.cps.toList.headD 0 ∈ abc.cps.toList)) | _ => .non := by
        unfold sgn
        rw [List.map_map, List.map_map]
        rfl
      rw [em]
      refine el_map _ (src_str (ev_var rfl)) (by unfold sgn; rw [List.length_map, ← len_eq]; exact hz) (fun _ => rfl) fun x H3 e3 hx => ?_
      obtain ⟨c, _, rfl⟩ := List.mem_map.mp hx
      exact ev_op (ev_var rfl) ev_c rv_inSg
    · have e : isName z = (z.cps.toList.map fun c => decide (c ∈ abc.cps.toList)).all id := by
        unfold isName
        have hc : 1 ≤ z.length ∧ z.length ≤ 8 := by
          simp at hb
          omega
        rw [decide_eq_true hc, Bool.true_and, List.all_map]
        rfl
      have q' := q H2 (e1.trans e2)
      rw [e] at q'
      exact q'
theorem sc_is_name : FnScope ["value", "letter"] ["value"] (defScope s_is_name) := ⟨rfl, rfl, rfl, by decide +kernel, rfl, by decide +kernel, by decide +kernel⟩
theorem d_is_name {P : Program} {w : World} {K : PySem.W.Frag} {mg : Str → Option Value} {base : Heap} (T : Txt K mg) {f : Addr} {cdv : Value} {A : Around} {outer : List Env} {s : Shared} {H : Hp} {E : XK} (hr : Room 0 (A.deeper (envOfC "is_name" (defScope s_is_name) s.heap.objs.size f cdv))) :
    PSs (cxOf CX0 P w K mg base ["value", "letter"] "is_name" (defScope s_is_name) f cdv A outer s H E).nox (defBody s_is_name) (t_is_name K) := by
  have hu := hu_of hr
  exact (pss_cons (ps_if (PW.pt (pw_or (pt_not (pt_val (pe_callB call_isi (by rfl) T.b_isinstance (by decide +kernel) (pa_cons (pv 0) (pa_cons (pe_ty T.b_str) pa_nil))))) (pw_or1 (pt_not (pt_chain op_le op_le pe_int (pe_callB call_len_str (by rfl) T.b_len (by decide +kernel) (pa_cons (pv 0) pa_nil)) (pe_k T.k_MAX_LETTERS)))))) (pss_one (ps_ret pe_bl)) pss_nil)
      (pss_one (ps_ret (pe_callB (cr_all rfl) (by rfl) T.b_all (by decide +kernel) (pa_cons (pe_lc (own := [("letter", 1)]) rfl sc_is_name.nd (pi_str (pv 0)) (blkOk_by (own := [("letter", 1)]) (N := ["value", "letter"]) (sc := defScope s_is_name) (by decide +kernel)) (fun _ _ _ _ _ => (pg_name (i := 1) sc_is_name.nd rfl (Or.inl rfl))) (fun _ _ _ _ _ => pts_nil) (fun _ _ _ _ _ => (pe_cmpR op_in_sign (pv 1) (pe_k T.k_ALPHABET) (by rfl)))) pa_nil)))))
theorem ok_is_name {P : Program} {w : World} {K : PySem.W.Frag} {mg : Str → Option Value} {base : Heap} (T : Txt K mg) : FnOk P w K mg base CX0 1 T.is_name.f T.is_name.fd ["value"] (sp_is_name) :=
  ok0 T.is_name.F sc_is_name len_is_name fun cdv A outer s H vs Q E hr h => ⟨t_is_name K, d_is_name T hr, pure_is_name h⟩
theorem cl_is_name {P : Program} {w : World} {K : PySem.W.Frag} {mg : Str → Option Value} {base : Heap} (T : Txt K mg) : Cl P w K mg base 1 "is_name" sp_is_name := cl_of T.is_name (ok_is_name T) fun _ _ _ _ _ _ us hl => match us, hl with | [_], _ => rfl

/-! ### more sources; what a value is behind an expression -/
/-- P of the value and of the heap -/
def EvQ (te : TE) (σ : L2.St) (H : Hp) (P : V → Hp → Prop) : Prop := ∀ H1, Ex H H1 → ∀ Q : VK, (∀ v H2, Ex H1 H2 → P v H2 → Q v H2) → te σ H1 Q
section
variable {K : PySem.W.Frag} {σ : L2.St} {H : Hp} {ta tb te : TE} {a : Addr} {xs ys : List V}
theorem Ev.q {v : V} (h : Ev te σ H v) : EvQ te σ H (fun x _ => x = v) := fun H1 e Q q => h H1 e Q fun H2 e2 => q v H2 e2 rfl
theorem EvQ.mono {H' : Hp} {P : V → Hp → Prop} (e : Ex H H') (h : EvQ te σ H P) : EvQ te σ H' P := fun H1 e1 => h H1 (e.trans e1)
/-- t[lo:hi] of a tuple -/
theorem ev_slT {tl th : TO} {lo hi : Option Int} (h : Ev te σ H (.ref a)) (h1 : EvO tl σ H lo) (h2 : EvO th σ H hi) (hs : SqT K H a xs) : EvQ (L2.tSl (rSlA K) te tl th) σ H (fun v H2 => ∃ b, v = .ref b ∧ SqT K H2 b (cutV xs lo hi)) := fun H1 e Q q =>
  h H1 e _ fun H2 e2 => h1 H2 (e.trans e2) _ fun H3 e3 => h2 H3 ((e.trans e2).trans e3) _ fun H4 e4 => by
    have hs4 := ex_t (((e.trans e2).trans e3).trans e4) hs
    refine ⟨a, xs, rfl, hs4, fun hw => ?_, fun _ p hp => ?_⟩
    · refine q _ H4 ((e2.trans e3).trans e4) ⟨a, rfl, ?_⟩
      have ec : cutV xs lo hi = xs := by
        unfold cutV
        rw [hw.1, hw.2]
        simp
      rw [ec]
      exact hs4
    · exact q _ _ (((e2.trans e3).trans e4).trans (Ex.new hp)) ⟨p, rfl, SqT.of upd_same⟩
theorem cut_tail (xs : List V) : cutV xs (some 1) none = xs.tail := by
  unfold cutV
  rw [show (some 1 : Option Int) = some ((1 : Nat) : Int) from rfl, HT.sIx_nat, HT.sIx_none]
  cases xs with
  | nil => rfl
  | cons x r => simp
theorem walk_zipT {a b : Addr} {n : Nat} (hn : n = min xs.length ys.length) : Walk (RZ.ItzT K a b) n (fun H => SqT K H a xs ∧ SqT K H b ys) (YPair (fun i => xs[i]?) (fun i => ys[i]?)) := by
  refine ⟨fun i H hi hg => ?_, fun H hg => ⟨xs, ys, hg.1, hg.2, by omega⟩, fun i H x H' hi hg hy => ?_⟩
  · have h1 : i < xs.length := by omega
    have h2 : i < ys.length := by omega
    exact ⟨xs, ys, xs[i], ys[i], hg.1, hg.2, List.getElem?_eq_getElem h1, List.getElem?_eq_getElem h2⟩
  · obtain ⟨T, x1, y1, e1, e2, e3, e4, e5⟩ := hy
    exact ⟨T, x1, y1, e1, e2, e3, e4 xs hg.1, e5 ys hg.2⟩
theorem src_zipT {zs : List V} (ha : Ev ta σ H (.ref a)) (hx : SqT K H a xs) (hb : EvQ tb σ H (fun v H2 => ∃ b, v = .ref b ∧ SqT K H2 b zs)) (ez : zs = ys) : SrcP (RZ.iZipA K (tCons ta (tCons tb tNil))) σ H (xs.zip ys) := fun H1 e R q =>
  ha H1 e _ fun H2 e2 => hb H2 (e.trans e2) _ fun v H3 e3 ⟨b, ev, hz⟩ => by
    subst ev
    rw [ez] at hz
    have hx3 := ex_t ((e.trans e2).trans e3) hx
    refine ⟨a, b, xs, ys, rfl, .inr ⟨hx3, hz, q _ H3 (e2.trans e3) ?_⟩⟩
    have w := walk_zipT (K := K) (a := a) (b := b) (xs := xs) (ys := ys) (n := (xs.zip ys).length) (by rw [List.length_zip])
    refine w.mono (fun H4 e4 => ⟨ex_t e4 hx3, ex_t e4 hz⟩) fun i H4 x H5 hi _ ⟨T, x1, y1, e1, e2', e3', e4, e5⟩ => ⟨T, (x1, y1), ?_, e1, e2', e3'⟩
    rw [List.getElem?_zip_eq_some]
    exact ⟨e4, e5⟩
end

/-! ### are_names -/
def t_are_names (K : PySem.W.Frag) : TS :=
  (tSeq (tIfS (tOr (tNot (tB (tCB (rIsi K) (tCons (tVar 0) (tCons (tC (.ty "tuple")) tNil))))) (tNot (tB (tCB (rAll K) (tCons (tLc (iTup K (tVar 0)) (gName 1) tYes (tCl sp_is_name (tCons (tVar 1) tNil)) [1]) tNil))))) (tRet (tC (.bl false))) tNext)
    (tRet (tCB (rAll K) (tCons (tLc (RZ.iZipA K (tCons (tVar 0) (tCons (L2.tSl (rSlA K) (tVar 0) (tPart (tC (.int 1))) tNoPart) tNil))) (gTup K 2 (gCons (gName 2) (gCons (gName 3) gNil))) tYes (tOp rLtS (tVar 2) (tVar 3)) [2, 3]) tNil))))
/-- one text below another -/
def ltS (a b : Str) : Bool := decide (a.cps.toList < b.cps.toList)
/-- each text below the next -/
def ascS (l : List Str) : Bool := (l.zip l.tail).all fun p => ltS p.1 p.2
def areNames (l : List Str) : Bool := l.all isName && ascS l
def sp_are_names : Sp := fun vs H Q _ => ∃ (a : Addr) (l : List Str), vs = [.ref a] ∧ H a = some (.tup (l.map V.str)) ∧ l.length ≤ 40000 ∧ (∀ z ∈ l, z.length ≤ 40000) ∧ ∀ H', Ex H H' → Q (.bl (areNames l)) H'
theorem len_are_names : ∀ vs H Q E, sp_are_names vs H Q E → vs.length = 1 := fun vs H Q E ⟨_, _, e, _⟩ => by rw [e]; rfl
theorem spv_is_name {H : Hp} {z : Str} (h : z.length ≤ 40000) : SpV sp_is_name [.str z] H (.bl (isName z)) := fun H1 _ Q q E => ⟨z, rfl, h, q⟩
theorem pure_are_names {K : PySem.W.Frag} {vs : List V} {H : Hp} {Q : VK} {E : XK} (h : sp_are_names vs H Q E) : t_are_names K { nx := fun _ H' => Q .non H', rt := Q } (start ["value", "name", "one", "other"] vs) H := by
  obtain ⟨a, l, rfl, ha, hl, hz, q⟩ := h
  have hT : SqT K H a (l.map V.str) := SqT.of ha
  refine q_when (b := !(l.all isName)) (et_is (et_or (et_not (et_B (ev_isi (ev_var rfl) ev_c (.ty _) (fun H1 e1 => .base (.tup (e1 a _ ha))) (kit_ty (r := true) (by decide +kernel))))) fun _ =>
    et_not (et_B (ev_allN (bs := l.map isName) ?_))) (by rw [List.all_map]; rfl)) (fun hb H1 e1 => ?_) (fun hb H1 e1 => ?_)
  · have em : (l.map isName).map V.bl = (l.map V.str).map fun v => match v with | .str y => .bl (isName y) | _ => .non := by
      rw [List.map_map, List.map_map]
      rfl
    rw [em]
    refine el_map _ (src_tup (ev_var rfl) hT) (by rw [List.length_map]; exact hl) (fun _ => rfl) fun x H3 e3 hx => ?_
    obtain ⟨z, hm, rfl⟩ := List.mem_map.mp hx
    exact ev_cl (ea_cons (ev_var rfl) ea_nil) (spv_is_name (hz z hm))
  · refine s_ret ev_c fun H2 e2 => ?_
    have q' := q H2 (e1.trans e2)
    have e : areNames l = false := by
      unfold areNames
      rw [show l.all isName = false by simpa using hb]
      rfl
    rw [e] at q'
    exact q'
  · refine s_ret (ev_allN (bs := (l.zip l.tail).map fun p => ltS p.1 p.2) ?_) fun H2 e2 => ?_
    · have em : ((l.zip l.tail).map fun p => ltS p.1 p.2).map V.bl = (((l.map V.str).zip (l.map V.str).tail)).map fun p => match p with | (.str y, .str z) => .bl (ltS y z) | _ => .non := by
        rw [← List.map_tail, List.zip_map, List.map_map, List.map_map]
        rfl
      rw [em]
      refine el_mapP _ (src_zipT (ev_var rfl) (ex_t e1 hT) (ev_slT (ev_var rfl) (eo_some ev_c) eo_none (ex_t e1 hT)) (cut_tail _)) ?_ (fun _ _ => rfl) fun p H3 e3 hp => ?_
      · simp only [List.length_zip, List.length_map, List.length_tail]
        omega
      · rw [← List.map_tail, List.zip_map] at hp
        obtain ⟨⟨y, z⟩, _, rfl⟩ := List.mem_map.mp hp
        exact ev_op (ev_var rfl) (ev_var rfl) rv_ltS
    · have q' := q H2 (e1.trans e2)
      have e : areNames l = ((l.zip l.tail).map fun p => ltS p.1 p.2).all id := by
        unfold areNames ascS
        have h1 : l.all isName = true := by simpa using hb
        rw [h1, Bool.true_and, List.all_map]
        rfl
      rw [e] at q'
      exact q'
theorem sc_are_names : FnScope ["value", "name", "one", "other"] ["value"] (defScope s_are_names) := ⟨rfl, rfl, rfl, by decide +kernel, rfl, by decide +kernel, by decide +kernel⟩
theorem d_are_names {P : Program} {w : World} {K : PySem.W.Frag} {mg : Str → Option Value} {base : Heap} (T : Txt K mg) {f : Addr} {cdv : Value} {A : Around} {outer : List Env} {s : Shared} {H : Hp} {E : XK} (hr : Room 1 (A.deeper (envOfC "are_names" (defScope s_are_names) s.heap.objs.size f cdv))) :
    PSs (cxOf CX0 P w K mg base ["value", "name", "one", "other"] "are_names" (defScope s_are_names) f cdv A outer s H E).nox (defBody s_are_names) (t_are_names K) := by
  have hu := hu_of hr
  exact (pss_cons (ps_if (PW.pt (pw_or (pt_not (pt_val (pe_callB call_isi (by rfl) T.b_isinstance (by decide +kernel) (pa_cons (pv 0) (pa_cons (pe_ty T.b_tuple) pa_nil))))) (pw_or1 (pt_not (pt_val (pe_callB (cr_all rfl) (by rfl) T.b_all (by decide +kernel) (pa_cons (pe_lc (own := [("name", 1)]) rfl sc_are_names.nd (pi_tup (pv 0)) (blkOk_by (own := [("name", 1)]) (N := ["value", "name", "one", "other"]) (sc := defScope s_are_names) (by decide +kernel)) (fun _ _ _ _ _ => (pg_name (i := 1) sc_are_names.nd rfl (Or.inl rfl))) (fun _ _ _ _ _ => pts_nil) (fun _ _ _ _ _ => (pe_cl (cl_is_name T) hr (pa_cons (pv 1) pa_nil)))) pa_nil))))))) (pss_one (ps_ret pe_bl)) pss_nil)
      (pss_one (ps_ret (pe_callB (cr_all rfl) (by rfl) T.b_all (by decide +kernel) (pa_cons (pe_lc (own := [("one", 2), ("other", 3)]) rfl sc_are_names.nd (RZ.pi_zipA (by rfl) T.b_zip (pa_cons (pv 0) (pa_cons (pe_slice sl_tupA (pv 0) (po_some pe_int) po_none) pa_nil))) (blkOk_by (own := [("one", 2), ("other", 3)]) (N := ["value", "name", "one", "other"]) (sc := defScope s_are_names) (by decide +kernel)) (fun _ _ _ _ _ => (pg_tup rfl (pgs_cons (pg_name (i := 2) sc_are_names.nd rfl (Or.inl rfl)) (pgs_cons (pg_name (i := 3) sc_are_names.nd rfl (Or.inl rfl)) pgs_nil)))) (fun _ _ _ _ _ => pts_nil) (fun _ _ _ _ _ => (pe_cmpR op_lt_str (pv 2) (pv 3) (nomark _)))) pa_nil)))))
theorem ok_are_names {P : Program} {w : World} {K : PySem.W.Frag} {mg : Str → Option Value} {base : Heap} (T : Txt K mg) : FnOk P w K mg base CX0 2 T.are_names.f T.are_names.fd ["value"] (sp_are_names) :=
  ok0 T.are_names.F sc_are_names len_are_names fun cdv A outer s H vs Q E hr h => ⟨t_are_names K, d_are_names T hr, pure_are_names h⟩
theorem cl_are_names {P : Program} {w : World} {K : PySem.W.Frag} {mg : Str → Option Value} {base : Heap} (T : Txt K mg) : Cl P w K mg base 2 "are_names" sp_are_names := cl_of T.are_names (ok_are_names T) fun _ _ _ _ _ _ us hl => match us, hl with | [_], _ => rfl

/-! ### the built-ins' readings by name -/
abbrev rAbs : List V → Hp → VK → Prop := fun xs H Q => ∃ i, xs = [.int i] ∧ Q (.int (if i < 0 then -i else i)) H
abbrev rMin2 : List V → Hp → VK → Prop := fun xs H Q => ∃ i j, xs = [.int i, .int j] ∧ Q (.int (if j < i then j else i)) H
abbrev rInt1 : List V → Hp → VK → Prop := fun xs H Q => (∃ i, xs = [.int i] ∧ Q (.int i) H) ∨ ∃ k, xs = [.bl k] ∧ Q (.int (if k then 1 else 0)) H
abbrev rIntStr : List V → Hp → VK → Prop := fun xs H Q => ∃ a n, xs = [.str a] ∧ PySem.intText? a = some n ∧ a.length ≤ 640 ∧ Q (.int n) H
abbrev rStrInt : List V → Hp → VK → Prop := fun xs H Q => ∃ i, xs = [.int i] ∧ i.natAbs.log2 < 1920 ∧ Q (.str (toString i)) H
abbrev rReprI : List V → Hp → VK → Prop := fun xs H Q => ∃ i, xs = [.int i] ∧ i.natAbs.log2 < 1920 ∧ Q (.str (toString i)) H
abbrev rTupOf (K : PySem.W.Frag) : List V → Hp → VK → Prop := fun xs H Q => ∃ p ys, xs = [.ref p] ∧ ((SqL K H p ys ∧ ∀ l, H l = none → Q (.ref l) (upd H l (.tup ys))) ∨ (SqT K H p ys ∧ Q (.ref p) H))
abbrev rLenD : List V → Hp → VK → Prop := fun xs H Q => ∃ a kvs, xs = [V.ref a] ∧ H a = some (.dK kvs) ∧ Q (.int kvs.length) H
abbrev rSortedD : List V → Hp → VK → Prop := fun xs H Q => ∃ (a : Addr) (kvs : List (Key × V)) (ks : List Str), xs = [.ref a] ∧ Rd H a (.dK kvs) ∧ kvs.map (·.1) = ks.map Sum.inr ∧ ks.length < 64 ∧ ∀ ys p, ys.Perm ks → sortedS ys = true → H p = none → Q (.ref p) (upd H p (.lst (ys.map V.str)))
abbrev rDictP (K : PySem.W.Frag) : List V → Hp → VK → Prop := fun xs H Q => ∃ (a : Addr) (ps : List Addr) (kvs : List (Key × V)), xs = [.ref a] ∧ SqL K H a (ps.map V.ref) ∧ Paired (fun p kv => SqT K H p [kV kv.1, kv.2]) ps kvs ∧ ∀ p, H p = none → Q (.ref p) (upd H p (.dK (mergeK [] kvs)))
abbrev rSplit : V → List V → Hp → VK → Prop := fun x xs H Q => ∃ a b, x = .str a ∧ xs = [.str b] ∧ (b.length == 0) = false ∧ a.length + 2 ≤ sizeLine ∧ rNewStrs (Txt.split a b) H Q
abbrev rJoin (K : PySem.W.Frag) : V → List V → Hp → VK → Prop := fun x xs H Q => ∃ a p, ∃ ys : List Str, x = .str a ∧ xs = [.ref p] ∧ (SqL K H p (ys.map V.str) ∨ SqT K H p (ys.map V.str)) ∧ (ys.map (·.length)).sum + ys.length * a.length ≤ 16777216 ∧ Q (.str (Txt.join a ys)) H
abbrev rPart : V → List V → Hp → VK → Prop := fun x xs H Q => ∃ a b, x = .str a ∧ xs = [.str b] ∧ (b.length == 0) = false ∧ a.length ≤ sizeLine ∧ ∀ p, H p = none → Q (.ref p) (upd H p (.tup [.str (Txt.partition a b).1, .str (Txt.partition a b).2.1, .str (Txt.partition a b).2.2]))
abbrev rStripC : V → List V → Hp → VK → Prop := fun x xs H Q => ∃ a b, x = .str a ∧ xs = [.str b] ∧ a.length ≤ sizeLine ∧ Q (.str (Txt.stripChars a b)) H
def tJoined (ts : List TE) : TE := fun σ H Q => tJs ts Str.empty σ H fun out H1 => Q (.str out) H1
section
variable {X : Cx} {o e : Expr} {to te : TE}
theorem pe_stripC {apos pos : Pos} (ho : PE X o to) (he : PE X e te) (hs : starEach [e] X.env = [(false, eval e X.env)] := by rfl) (hbase : attributeBase o "strip" X.env (eval o X.env) = eval o X.env := by rfl) (hline : (apos.endLine == pos.line) = true := by rfl) : PE X (.Call (.Attribute o "strip" apos) [e] [] pos) (tM1 rStripC to te) :=
  pe_m1 PySem.F.slot_str_strip PySem.F.type_str_strip mt_stripChars ho he hs hbase hline
end
section
variable {K : PySem.W.Frag} {σ : L2.St} {H : Hp} {ta tb te : TE} {a b : Str} {xs ys : List V}
theorem ev_slS {tl th : TO} {lo hi : Option Int} (h : Ev te σ H (.str a)) (h1 : EvO tl σ H lo) (h2 : EvO th σ H hi) (hz : a.length ≤ 100000) : Ev (L2.tSl rSlS te tl th) σ H (.str (cutS a lo hi)) := fun H1 e Q q =>
  h H1 e _ fun H2 e2 => h1 H2 (e.trans e2) _ fun H3 e3 => h2 H3 ((e.trans e2).trans e3) _ fun H4 e4 => ⟨a, rfl, sz_of hz, q H4 ((e2.trans e3).trans e4)⟩
theorem ev_intS {n : Int} (h : Ev ta σ H (.str a)) (hn : intText? a = some n) (hz : a.length ≤ 640) : Ev (tCB rIntStr (tCons ta tNil)) σ H (.int n) := fun H1 e Q q => h H1 e _ fun H2 e2 => ⟨a, n, rfl, hn, hz, q H2 e2⟩
theorem ev_strI {n : Int} (h : Ev ta σ H (.int n)) (hz : n.natAbs.log2 < 1920) : Ev (tCB rStrInt (tCons ta tNil)) σ H (.str (toString n)) := fun H1 e Q q => h H1 e _ fun H2 e2 => ⟨n, rfl, hz, q H2 e2⟩
theorem ev_int1 {n : Int} (h : Ev ta σ H (.int n)) : Ev (tCB rInt1 (tCons ta tNil)) σ H (.int n) := fun H1 e Q q => h H1 e _ fun H2 e2 => .inl ⟨n, rfl, q H2 e2⟩
theorem ev_intB {n : Bool} (h : Ev ta σ H (.bl n)) : Ev (tCB rInt1 (tCons ta tNil)) σ H (.int (if n then 1 else 0)) := fun H1 e Q q => h H1 e _ fun H2 e2 => .inr ⟨n, rfl, q H2 e2⟩
theorem ev_min2 {i j : Int} (ha : Ev ta σ H (.int i)) (hb : Ev tb σ H (.int j)) : Ev (tCB rMin2 (tCons ta (tCons tb tNil))) σ H (.int (if j < i then j else i)) := fun H1 e Q q =>
  ha H1 e _ fun H2 e2 => hb H2 (e.trans e2) _ fun H3 e3 => ⟨i, j, rfl, q H3 (e2.trans e3)⟩
theorem el_split (h : Ev ta σ H (.str a)) (hb : Ev tb σ H (.str b)) (h1 : (b.length == 0) = false) (h2 : a.length ≤ 50000) : EvL (tM1 rSplit ta tb) σ H ((Txt.split a b).map V.str) := fun H1 e Q q =>
  h H1 e _ fun H2 e2 => ⟨⟨a, rfl⟩, hb H2 (e.trans e2) _ fun H3 e3 => ⟨a, b, rfl, rfl, h1, sz_of (by omega), fun p hp => q p _ (fresh_back (e2.trans e3) hp) ((e2.trans e3).trans (Ex.new hp)) upd_same⟩⟩
theorem eu_part (h : Ev ta σ H (.str a)) (hb : Ev tb σ H (.str b)) (h1 : (b.length == 0) = false) (h2 : a.length ≤ 50000) : EvU (tM1 rPart ta tb) σ H [.str (Txt.partition a b).1, .str (Txt.partition a b).2.1, .str (Txt.partition a b).2.2] := fun H1 e Q q =>
  h H1 e _ fun H2 e2 => ⟨⟨a, rfl⟩, hb H2 (e.trans e2) _ fun H3 e3 => ⟨a, b, rfl, rfl, h1, sz_of (by omega), fun p hp => q p _ (fresh_back (e2.trans e3) hp) ((e2.trans e3).trans (Ex.new hp)) upd_same⟩⟩
theorem ev_stripC (h : Ev ta σ H (.str a)) (hb : Ev tb σ H (.str b)) (h2 : a.length ≤ 50000) : Ev (tM1 rStripC ta tb) σ H (.str (Txt.stripChars a b)) := fun H1 e Q q =>
  h H1 e _ fun H2 e2 => ⟨⟨a, rfl⟩, hb H2 (e.trans e2) _ fun H3 e3 => ⟨a, b, rfl, rfl, sz_of (by omega), q H3 (e2.trans e3)⟩⟩
/-- join of a new list of texts -/
theorem ev_joinN {l : List Str} (h : Ev ta σ H (.str a)) (hb : EvL tb σ H (l.map V.str)) (hz : (l.map (·.length)).sum + l.length * a.length ≤ 100000) : Ev (tM1 (rJoin K) ta tb) σ H (.str (Txt.join a l)) := fun H1 e Q q =>
  h H1 e _ fun H2 e2 => ⟨⟨a, rfl⟩, hb H2 (e.trans e2) _ fun p H3 hp e3 hx => ⟨a, p, l, rfl, rfl, .inl (SqL.of hx), by omega, q H3 (e2.trans e3)⟩⟩
/-- the parts of an f-string -/
inductive EvS : List TE → L2.St → Hp → Str → Str → Prop
  | nil {σ : L2.St} {H : Hp} {acc : Str} : EvS [] σ H acc acc
  | cons {t : TE} {ts : List TE} {σ : L2.St} {H : Hp} {acc y out : Str} (h : Ev t σ H (.str y)) (hz : (acc ++ y).length ≤ 100000) (r : EvS ts σ H (acc ++ y) out) : EvS (t :: ts) σ H acc out
theorem EvS.run {ts : List TE} {acc out : Str} (h : EvS ts σ H acc out) : ∀ H1, Ex H H1 → ∀ Q : Str → Hp → Prop, (∀ H2, Ex H1 H2 → Q out H2) → tJs ts acc σ H1 Q := by
  induction h with
  | nil => exact fun H1 _ Q q => q H1 (Ex.refl H1)
  | @cons t ts σ H acc y out h hz r ih => exact fun H1 e Q q => h H1 e _ fun H2 e2 => ⟨y, rfl, sz_of hz, ih H2 (e.trans e2) Q fun H3 e3 => q H3 (e2.trans e3)⟩
theorem ev_joined {ts : List TE} {out : Str} (h : EvS ts σ H Str.empty out) : Ev (tJoined ts) σ H (.str out) := fun H1 e Q q => h.run H1 e _ fun H2 e2 => q H2 e2
theorem ev_fmtS (h : Ev te σ H (.str a)) (hz : a.length ≤ 100000) : Ev (tFmt te) σ H (.str a) := fun H1 e Q q => h H1 e _ fun H2 e2 => .inl ⟨a, rfl, sz_of hz, q H2 e2⟩
theorem ev_fmtI {n : Int} (h : Ev te σ H (.int n)) (hz : n.natAbs.log2 < 1920) : Ev (tFmt te) σ H (.str (toString n)) := fun H1 e Q q => h H1 e _ fun H2 e2 => .inr ⟨n, rfl, hz, q H2 e2⟩
end

end K08

namespace K08
open PySem PySem.Spec PyProof.Rows L2 Evl
/-! ### common_divisor -/
def t_common_divisor (K : PySem.W.Frag) : TS :=
  (tSeq (tWhile (tTest (tOp rNe (tVar 1) (tC (.int 0)))) (tPar 0 1 (tCons (tVar 1) (tCons (tOp rModP (tVar 0) (tVar 1)) tNil))))
    (tRet (tCB rAbs (tCons (tVar 0) tNil))))
theorem gcd_mod (x y : Int) : Int.gcd y (x % y) = Int.gcd x y := by
  have e := Int.mul_ediv_add_emod x y
  have h1 : ((Int.gcd y (x % y) : Nat) : Int) ∣ y := Int.gcd_dvd_left ..
  have h2 : ((Int.gcd y (x % y) : Nat) : Int) ∣ x % y := Int.gcd_dvd_right ..
  have h3 : ((Int.gcd x y : Nat) : Int) ∣ x := Int.gcd_dvd_left ..
  have h4 : ((Int.gcd x y : Nat) : Int) ∣ y := Int.gcd_dvd_right ..
  apply Nat.dvd_antisymm
  · have hh := Int.dvd_add (Int.dvd_trans h1 (Int.dvd_mul_right y (x / y))) h2
    rw [e] at hh
    exact Int.natCast_dvd_natCast.mp (Int.dvd_coe_gcd hh h1)
  · refine Int.natCast_dvd_natCast.mp (Int.dvd_coe_gcd h4 ?_)
    have e2 : x % y = x - y * (x / y) := by omega
    rw [e2]
    exact Int.dvd_sub h3 (Int.dvd_trans h4 (Int.dvd_mul_right ..))
def sp_common_divisor : Sp := fun vs H Q _ => ∃ a b : Int, vs = [.int a, .int b] ∧ 0 ≤ b ∧ ∀ H', Ex H H' → Q (.int (Int.gcd a b)) H'
theorem len_common_divisor : ∀ vs H Q E, sp_common_divisor vs H Q E → vs.length = 2 := fun vs H Q E ⟨_, _, e, _⟩ => by rw [e]; rfl
theorem q_par {σ : L2.St} {H : Hp} {i j : Nat} {ta tb : TE} {x y : V} {D : Ends} {tz : TS} (ha : Ev ta σ H x) (hb : Ev tb σ H y) (k : ∀ H1, Ex H H1 → tz D ((σ.set i (some x)).set j (some y)) H1) : tSeq (tPar i j (tCons ta (tCons tb tNil))) tz D σ H :=
  ha H (Ex.refl H) _ fun H1 e1 => hb H1 e1 _ fun H2 e2 => ⟨x, y, rfl, k H2 (e1.trans e2)⟩
theorem s_par {σ : L2.St} {H : Hp} {i j : Nat} {ta tb : TE} {x y : V} {D : Ends} (ha : Ev ta σ H x) (hb : Ev tb σ H y) (k : ∀ H1, Ex H H1 → D.nx ((σ.set i (some x)).set j (some y)) H1) : tPar i j (tCons ta (tCons tb tNil)) D σ H :=
  ha H (Ex.refl H) _ fun H1 e1 => hb H1 e1 _ fun H2 e2 => ⟨x, y, rfl, k H2 (e1.trans e2)⟩
theorem ev_abs {σ : L2.St} {H : Hp} {ta : TE} {i : Int} (ha : Ev ta σ H (.int i)) : Ev (tCB rAbs (tCons ta tNil)) σ H (.int i.natAbs) := fun H1 e Q q => ha H1 e _ fun H2 e2 => ⟨i, rfl, by
  have ei : (if i < 0 then -i else i) = (i.natAbs : Int) := by
    split <;> omega
  rw [ei]
  exact q H2 e2⟩
theorem pure_common_divisor {K : PySem.W.Frag} {vs : List V} {H : Hp} {Q : VK} {E : XK} (h : sp_common_divisor vs H Q E) : t_common_divisor K { nx := fun _ H' => Q .non H', rt := Q } (start ["one", "other"] vs) H := by
  obtain ⟨a, b, rfl, hb, q⟩ := h
  refine q_while (fun m σ' H' => ∃ x y : Int, σ' = [some (.int x), some (.int y)] ∧ 0 ≤ y ∧ m = y.toNat ∧ Int.gcd x y = Int.gcd a b ∧ Ex H H') b.toNat ⟨a, b, rfl, hb, rfl, rfl, Ex.refl H⟩ ?_
  rintro m σ' H' ⟨x, y, rfl, hy, rfl, hg, e0⟩
  refine ⟨!decide (V.int y = V.int 0), et_test (ev_op (ev_var rfl) ev_c (rv_ne rfl)), fun hb1 H1 e1 => ?_, fun hb1 H1 e1 => ?_⟩
  · have hy0 : y ≠ 0 := fun z => by rw [z] at hb1; simp at hb1
    have hp : 0 < y := by omega
    refine ⟨fun σ2 H2 => ∃ x' y' : Int, σ2 = [some (.int x'), some (.int y')] ∧ 0 ≤ y' ∧ y'.toNat < y.toNat ∧ Int.gcd x' y' = Int.gcd a b ∧ Ex H H2, fun σ2 H2 ⟨x', y', h1, h2, h3, h4, h5⟩ => ⟨y'.toNat, h3, x', y', h1, h2, rfl, h4, h5⟩, ?_⟩
    refine s_par (ev_var rfl) (ev_op (ev_var rfl) (ev_var rfl) (rv_I hp)) fun H2 e2 => ?_
    refine ⟨y, x % y, rfl, Int.emod_nonneg _ hy0, ?_, ?_, (e0.trans e1).trans e2⟩
    · have := Int.emod_lt_of_pos x hp
      have := Int.emod_nonneg x hy0
      omega
    · rw [gcd_mod]
      exact hg
  · have hy0 : y = 0 := by
      simp at hb1
      exact hb1
    subst hy0
    refine s_ret (ev_abs (ev_var rfl)) fun H2 e2 => ?_
    have q' := q H2 ((e0.trans e1).trans e2)
    rw [← hg, Int.gcd_zero_right] at q'
    exact q'
theorem sc_common_divisor : FnScope ["one", "other"] ["one", "other"] (defScope s_common_divisor) := ⟨rfl, rfl, rfl, by decide +kernel, rfl, by decide +kernel, by decide +kernel⟩
theorem d_common_divisor {P : Program} {w : World} {K : PySem.W.Frag} {mg : Str → Option Value} {base : Heap} (T : Txt K mg) {f : Addr} {cdv : Value} {A : Around} {outer : List Env} {s : Shared} {H : Hp} {E : XK} (hr : Room 0 (A.deeper (envOfC "common_divisor" (defScope s_common_divisor) s.heap.objs.size f cdv))) :
    PSs (cxOf CX0 P w K mg base ["one", "other"] "common_divisor" (defScope s_common_divisor) f cdv A outer s H E).nox (defBody s_common_divisor) (t_common_divisor K) := by
  have hu := hu_of hr
  exact (pss_cons (ps_while PassesOwn.never (pt_cmpR op_ne (pv 1) pe_int (nomark _)) (pss_one (ps_par (i := 0) (j := 1) (by rfl) sc_common_divisor.nd rfl rfl (by decide) rfl rfl (pa_cons (pv 1) (pa_cons (pe_op op_mod (pv 0) (pv 1)) pa_nil)) (by rfl))))
      (pss_one (ps_ret (pe_callB call_abs (by rfl) T.b_abs (by decide +kernel) (pa_cons (pv 0) pa_nil)))))
theorem ok_common_divisor {P : Program} {w : World} {K : PySem.W.Frag} {mg : Str → Option Value} {base : Heap} (T : Txt K mg) : FnOk P w K mg base CX0 1 T.common_divisor.f T.common_divisor.fd ["one", "other"] (sp_common_divisor) :=
  ok0 T.common_divisor.F sc_common_divisor len_common_divisor fun cdv A outer s H vs Q E hr h => ⟨t_common_divisor K, d_common_divisor T hr, pure_common_divisor h⟩
theorem cl_common_divisor {P : Program} {w : World} {K : PySem.W.Frag} {mg : Str → Option Value} {base : Heap} (T : Txt K mg) : Cl P w K mg base 1 "common_divisor" sp_common_divisor := cl_of T.common_divisor (ok_common_divisor T) fun _ _ _ _ _ _ us hl => match us, hl with | [_, _], _ => rfl

end K08

namespace K08
open PySem PySem.Spec PyProof.Rows L2 Evl
/-! ### whole numbers and their texts (plain) -/
abbrev toS (n : Int) : Str := Str.ofString (toString n)
theorem tl_toS_nat (n : Nat) : TL.tl (toS n) = TL.numL n := TL.tl_num n
theorem tl_toS_neg (n : Nat) : TL.tl (toS (-((n + 1 : Nat) : Int))) = 45 :: TL.numL (n + 1) := by
  have e : toString (-((n + 1 : Nat) : Int)) = "-" ++ toString (((n + 1 : Nat)) : Int) := rfl
  unfold toS
  rw [e, TL.tl_ofString, String.toList_append, List.map_append]
  have e2 : (toString (((n + 1 : Nat)) : Int)).toList.map Char.toNat = TL.numL (n + 1) := by
    rw [← TL.tl_ofString]
    exact TL.tl_num (n + 1)
  rw [e2]
  rfl
/-- a number is a count or below 0 -/
theorem int_two (n : Int) : (∃ k : Nat, n = (k : Int)) ∨ ∃ k : Nat, n = -((k + 1 : Nat) : Int) := by
  by_cases h : 0 ≤ n
  · exact .inl ⟨n.toNat, by omega⟩
  · exact .inr ⟨n.natAbs - 1, by omega⟩
theorem numL_dig {n c : Nat} (h : c ∈ TL.numL n) : 48 ≤ c ∧ c ≤ 57 := TL.numL_digits n c h
/-- what stands behind a sign - -/
def figL : List Nat → List Nat
  | 45 :: r => r
  | l => l
theorem figL_nil : figL [] = [] := rfl
theorem figL_neg (r : List Nat) : figL (45 :: r) = r := rfl
theorem figL_pos {l : List Nat} (h : ∀ r, l ≠ 45 :: r) : figL l = l := by
  unfold figL
  split
  · rename_i r
    exact absurd rfl (h r)
  · rfl
theorem figL_toS (n : Int) : figL (TL.tl (toS n)) = TL.numL n.natAbs := by
  rcases int_two n with ⟨k, rfl⟩ | ⟨k, rfl⟩
  · rw [tl_toS_nat]
    rw [figL_pos fun r e => by
      have h : (45 : Nat) ∈ TL.numL k := by rw [e]; exact List.mem_cons_self
      have := numL_dig h
      omega]
    rfl
  · rw [tl_toS_neg]
    show TL.numL (k + 1) = _
    congr 1
theorem toS_inj {m n : Int} (h : toS m = toS n) : m = n := by
  have hl : TL.tl (toS m) = TL.tl (toS n) := congrArg TL.tl h
  have nn : ∀ a b : Nat, TL.numL a ≠ 45 :: TL.numL b := fun a b e => by
    have h : (45 : Nat) ∈ TL.numL a := by rw [e]; exact List.mem_cons_self
    have := numL_dig h
    omega
  rcases int_two m with ⟨k, rfl⟩ | ⟨k, rfl⟩ <;> rcases int_two n with ⟨j, rfl⟩ | ⟨j, rfl⟩
  · rw [tl_toS_nat, tl_toS_nat] at hl
    rw [TL.numL_inj hl]
  · rw [tl_toS_nat, tl_toS_neg] at hl
    exact absurd hl (nn _ _)
  · rw [tl_toS_nat, tl_toS_neg] at hl
    exact absurd hl.symm (nn _ _)
  · rw [tl_toS_neg, tl_toS_neg] at hl
    have := TL.numL_inj (List.cons.inj hl).2
    omega
theorem tl_len (z : Str) : z.length = (TL.tl z).length := TL.len_tl z
theorem intText_toS {n : Int} (h : (toS n).length ≤ 4300) : intText? (toS n) = some n := by
  rcases int_two n with ⟨k, rfl⟩ | ⟨k, rfl⟩
  · refine TL.int_num ?_
    rw [tl_len, tl_toS_nat] at h
    exact h
  · have e := intText_neg (x := toS (-((k + 1 : Nat) : Int))) (cs := TL.numL (k + 1)) (tl_toS_neg k) (TL.numL_digits _) (TL.numL_ne _) h
    rw [e, TL.numL_val]
/-- the number with a text -/
noncomputable def intOf (t : Str) : Option Int := open Classical in if h : ∃ n : Int, t = toS n then some (Classical.choose h) else none
theorem intOf_toS (n : Int) : intOf (toS n) = some n := by
  unfold intOf
  have h : ∃ m : Int, toS n = toS m := ⟨n, rfl⟩
  rw [dif_pos h]
  exact congrArg some (toS_inj (Classical.choose_spec h)).symm
theorem intOf_none {t : Str} (h : ∀ n, t ≠ toS n) : intOf t = none := by
  unfold intOf
  rw [dif_neg fun ⟨n, e⟩ => h n e]
theorem intOf_some {t : Str} {n : Int} (h : intOf t = some n) : t = toS n := by
  unfold intOf at h
  split at h
  · rename_i hx
    have e := Option.some.inj h
    rw [← e]
    exact Classical.choose_spec hx
  · cases h
/-- all signs figures, at least one -/
def digL (l : List Nat) : Bool := !l.isEmpty && l.all fun c => decide (48 ≤ c ∧ c ≤ 57)
theorem digL_num (n : Nat) : digL (TL.numL n) = true := by
  unfold digL
  rw [Bool.and_eq_true]
  refine ⟨?_, List.all_eq_true.mpr fun c hc => decide_eq_true (numL_dig hc)⟩
  cases e : TL.numL n with
  | nil => exact absurd e (TL.numL_ne n)
  | cons _ _ => rfl
theorem digL_all {l : List Nat} (h : digL l = true) : NumText.AllDigits l ∧ l ≠ [] := by
  unfold digL at h
  rw [Bool.and_eq_true] at h
  refine ⟨fun c hc => of_decide_eq_true (List.all_eq_true.mp h.2 c hc), fun e => ?_⟩
  rw [e] at h
  simp at h
/-- the number that a text of figures tells -/
def valL (l : List Nat) : Int := match l with
  | 45 :: r => -((NumText.digitsVal r : Nat) : Int)
  | l => ((NumText.digitsVal l : Nat) : Int)
theorem intText_val {t : Str} (h : digL (figL (TL.tl t)) = true) (hz : t.length ≤ 4300) : intText? t = some (valL (TL.tl t)) := by
  by_cases hn : ∃ r, TL.tl t = 45 :: r
  · obtain ⟨r, e⟩ := hn
    rw [e, figL_neg] at h
    obtain ⟨h1, h2⟩ := digL_all h
    rw [intText_neg (x := t) (cs := r) e h1 h2 hz, e]
    rfl
  · have hp : ∀ r, TL.tl t ≠ 45 :: r := fun r e => hn ⟨r, e⟩
    rw [figL_pos hp] at h
    obtain ⟨h1, h2⟩ := digL_all h
    rw [intText_digits (x := t) h1 h2 hz]
    unfold valL
    split
    · rename_i r e
      exact absurd e (hp r)
    · rfl
theorem foldl_lt (l : List Nat) : ∀ (a : Nat), (∀ c ∈ l, 48 ≤ c ∧ c ≤ 57) → l.foldl (fun acc c => acc * 10 + (c - 48)) a < (a + 1) * 10 ^ l.length := by
  induction l with
  | nil => intro a _; simp
  | cons c r ih =>
    intro a h
    have hc := h c List.mem_cons_self
    have := ih (a * 10 + (c - 48)) fun d hd => h d (List.mem_cons_of_mem _ hd)
    rw [List.foldl_cons, List.length_cons, Nat.pow_succ]
    refine Nat.lt_of_lt_of_le this ?_
    have e : (a + 1) * (10 ^ r.length * 10) = ((a + 1) * 10) * 10 ^ r.length := by
      rw [Nat.mul_comm (10 ^ r.length) 10, Nat.mul_assoc]
    rw [e]
    exact Nat.mul_le_mul_right _ (by omega)
theorem digitsVal_lt {l : List Nat} (h : NumText.AllDigits l) : NumText.digitsVal l < 10 ^ l.length := by
  have := foldl_lt l 0 h
  unfold NumText.digitsVal
  simpa using this
theorem valL_lt {l : List Nat} (h : digL (figL l) = true) {k : Nat} (hk : (figL l).length ≤ k) : (valL l).natAbs < 10 ^ k := by
  have h10 : ∀ m, m ≤ k → 10 ^ m ≤ 10 ^ k := fun m hm => Nat.pow_le_pow_right (by decide) hm
  by_cases hn : ∃ r, l = 45 :: r
  · obtain ⟨r, e⟩ := hn
    subst e
    rw [figL_neg] at h hk
    have := digitsVal_lt (digL_all h).1
    have := h10 _ hk
    show (-((NumText.digitsVal r : Nat) : Int)).natAbs < _
    omega
  · have hp : ∀ r, l ≠ 45 :: r := fun r e => hn ⟨r, e⟩
    rw [figL_pos hp] at h hk
    have := digitsVal_lt (digL_all h).1
    have := h10 _ hk
    have ev : valL l = ((NumText.digitsVal l : Nat) : Int) := by
      unfold valL
      split
      · rename_i r2 _
        exact absurd rfl (hp r2)
      · rfl
    rw [ev]
    omega
theorem log2_small {n : Nat} (h : n < 10 ^ 200) : n.log2 < 1920 := by
  by_cases h0 : n = 0
  · subst h0; decide
  · refine (Nat.log2_lt h0).mpr (Nat.lt_trans h ?_)
    decide +kernel
theorem pow_mono {n k : Nat} (h : n < 10 ^ k) (hk : k ≤ 200) : n < 10 ^ 200 := Nat.lt_of_lt_of_le h (Nat.pow_le_pow_right (by decide) hk)
theorem numL_lt {n k : Nat} (h : (TL.numL n).length ≤ k) : n < 10 ^ k := by
  have e := digitsVal_lt (TL.numL_digits n)
  rw [TL.numL_val] at e
  exact Nat.lt_of_lt_of_le e (Nat.pow_le_pow_right (by decide) h)
/-- a text's length tells how great its number can be -/
theorem toS_abs {n : Int} {k : Nat} (h : (toS n).length ≤ k) : n.natAbs < 10 ^ k := by
  refine numL_lt ?_
  have e := figL_toS n
  have : (figL (TL.tl (toS n))).length ≤ (TL.tl (toS n)).length := by
    unfold figL
    split
    · rename_i r e2
      rw [e2]
      exact Nat.le_succ _
    · exact Nat.le_refl _
  rw [← e, tl_len] at *
  omega

end K08

namespace K08
open PySem PySem.Spec PyProof.Rows L2 Evl
/-! ### integer_in -/
def t_integer_in (K : PySem.W.Frag) : TS :=
  (tSeq (tAsg (tIf (tTest (tOp rEq (L2.tSl rSlS (tVar 0) tNoPart (tPart (tC (.int 1)))) (tC (.str "-")))) (L2.tSl rSlS (tVar 0) (tPart (tC (.int 1))) tNoPart) (tVar 0)) (gName 1))
    (tSeq (tIfS (tOr (tNot (tTest (tChain rLeI rLeI (tC (.int 1)) (tCB rLenStr (tCons (tVar 1) tNil)) (tC (.int 60))))) (tNot (tB (tCB (rAll K) (tCons (tLc (iStr (tVar 1)) (gName 2) tYes (tOp rInSg (tVar 2) (tC (.str "0123456789"))) [2]) tNil))))) (tRet (tC .non)) tNext)
    (tRet (tIf (tTest (tOp rEq (tCB rStrInt (tCons (tCB rIntStr (tCons (tVar 0) tNil)) tNil)) (tVar 0))) (tCB rIntStr (tCons (tVar 0) tNil)) (tC .non)))))
theorem tl_cut1 (z : Str) : TL.tl (cutS z none (some 1)) = (TL.tl z).take 1 := by
  unfold cutS
  rw [show (some 1 : Option Int) = some ((1 : Nat) : Int) from rfl, HT.sIx_nat, HT.sIx_none, List.drop_zero, TL.tl_mk]
  rw [Nat.sub_zero, len_eq]
  show List.take (min 1 (TL.tl z).length) (TL.tl z) = _
  cases TL.tl z with
  | nil => rfl
  | cons c r => simp
theorem tl_cutR (z : Str) : TL.tl (cutS z (some 1) none) = (TL.tl z).drop 1 := by
  unfold cutS
  rw [show (some 1 : Option Int) = some ((1 : Nat) : Int) from rfl, HT.sIx_nat, HT.sIx_none, TL.tl_mk, len_eq]
  show List.take ((TL.tl z).length - min 1 (TL.tl z).length) (List.drop (min 1 (TL.tl z).length) (TL.tl z)) = _
  cases TL.tl z with
  | nil => rfl
  | cons c r => simp
/-- text[:1] == '-' -/
def isNeg (z : Str) : Bool := match TL.tl z with
  | 45 :: _ => true
  | _ => false
theorem neg_iff (z : Str) : decide (V.str (cutS z none (some 1)) = V.str "-") = isNeg z := by
  have e : (V.str (cutS z none (some 1)) = V.str "-") ↔ (TL.tl z).take 1 = [45] := by
    constructor
    · intro h
      have h' := congrArg TL.tl (V.str.inj h)
      rw [tl_cut1] at h'
      exact h'
    · intro h
      congr 1
      apply TL.ext_tl
      rw [tl_cut1, h]
      rfl
  unfold isNeg
  cases hz : TL.tl z with
  | nil =>
    rw [hz] at e
    exact decide_eq_false fun q => by have := e.mp q; cases this
  | cons c r =>
    rw [hz] at e
    by_cases hc : c = 45
    · subst hc
      exact decide_eq_true (e.mpr rfl)
    · have en : decide (V.str (cutS z none (some 1)) = V.str "-") = false := decide_eq_false fun q => hc (List.cons.inj (e.mp q)).1
      rw [en]
      split
      · rename_i heq
        exact absurd (List.cons.inj heq).1 hc
      · rfl
/-- the figures of a text: what stands behind a sign - -/
def figS (z : Str) : Str := if isNeg z = true then cutS z (some 1) none else z
theorem tl_fig (z : Str) : TL.tl (figS z) = figL (TL.tl z) := by
  unfold figS isNeg
  split
  · rename_i r e
    rw [if_pos rfl, tl_cutR, e]
    rfl
  · rename_i h
    rw [if_neg (by decide)]
    exact (figL_pos h).symm
theorem fig_in (c : Nat) : decide (c ∈ (("0123456789" : Str)).cps.toList) = decide (48 ≤ c ∧ c ≤ 57) := by
  have e : (("0123456789" : Str)).cps.toList = [48, 49, 50, 51, 52, 53, 54, 55, 56, 57] := by decide +kernel
  rw [e]
  apply decide_eq_decide.mpr
  simp only [List.mem_cons, List.not_mem_nil, or_false]
  omega
def optI : Option Int → V
  | some n => .int n
  | none => .non
def sp_integer_in : Sp := fun vs H Q _ => ∃ t : Str, vs = [.str t] ∧ t.length ≤ 60 ∧ ∀ H', Ex H H' → Q (optI (intOf t)) H'
theorem len_integer_in : ∀ vs H Q E, sp_integer_in vs H Q E → vs.length = 1 := fun vs H Q E ⟨_, e, _⟩ => by rw [e]; rfl
/-- what a text must be to be a number's -/
def figOk (t : Str) : Bool := decide (1 ≤ (figS t).length ∧ (figS t).length ≤ 60) && (TL.tl (figS t)).all fun c => decide (48 ≤ c ∧ c ≤ 57)
theorem figOk_dig {t : Str} (h : figOk t = true) : digL (figL (TL.tl t)) = true ∧ (figL (TL.tl t)).length ≤ 60 := by
  unfold figOk at h
  rw [Bool.and_eq_true] at h
  have h1 := of_decide_eq_true h.1
  rw [tl_len, tl_fig] at h1
  rw [tl_fig] at h
  refine ⟨?_, h1.2⟩
  unfold digL
  rw [h.2, Bool.and_true]
  cases e : figL (TL.tl t) with
  | nil => rw [e] at h1; simp at h1
  | cons _ _ => rfl
theorem figOk_toS {n : Int} (h : (toS n).length ≤ 60) : figOk (toS n) = true := by
  unfold figOk
  have e := figL_toS n
  have hl : (figL (TL.tl (toS n))).length ≤ (TL.tl (toS n)).length := by
    unfold figL
    split
    · rename_i r e2
      rw [e2]
      exact Nat.le_succ _
    · exact Nat.le_refl _
  rw [tl_len, tl_fig, e, Bool.and_eq_true]
  rw [tl_len] at h
  rw [e] at hl
  refine ⟨decide_eq_true ⟨?_, by omega⟩, List.all_eq_true.mpr fun c hc => decide_eq_true (numL_dig hc)⟩
  cases e2 : TL.numL n.natAbs with
  | nil => exact absurd e2 (TL.numL_ne _)
  | cons _ _ => simp
/-- the answer, as the def reckons it -/
theorem intOf_run {t : Str} (hz : t.length ≤ 60) : intOf t = if figOk t = true then (if toS (valL (TL.tl t)) = t then some (valL (TL.tl t)) else none) else none := by
  by_cases hk : figOk t = true
  · rw [if_pos hk]
    by_cases he : toS (valL (TL.tl t)) = t
    · rw [if_pos he]
      have := intOf_toS (valL (TL.tl t))
      rw [he] at this
      exact this
    · rw [if_neg he]
      refine intOf_none fun n e => he ?_
      have h1 := intText_val (t := t) (figOk_dig hk).1 (by omega)
      have h2 := intText_toS (n := n) (by rw [← e]; omega)
      rw [← e, h1] at h2
      rw [Option.some.inj h2]
      exact e.symm
  · rw [if_neg hk]
    refine intOf_none fun n e => hk ?_
    rw [e]
    exact figOk_toS (by rw [← e]; exact hz)
theorem cut_le (z : Str) (lo hi : Option Int) : (cutS z lo hi).length ≤ z.length := cutS_length z lo hi
theorem fig_le (z : Str) : (figS z).length ≤ z.length := by
  unfold figS
  split
  · exact cut_le z _ _
  · exact Nat.le_refl _
theorem pure_integer_in {K : PySem.W.Frag} {vs : List V} {H : Hp} {Q : VK} {E : XK} (h : sp_integer_in vs H Q E) : t_integer_in K { nx := fun _ H' => Q .non H', rt := Q } (start ["text", "figures", "sign"] vs) H := by
  obtain ⟨t, rfl, hz, q⟩ := h
  have hf := fig_le t
  refine q_asg (v := .str (figS t)) (ev_if (b := isNeg t) (et_is (et_test (ev_op (ev_slS (ev_var rfl) eo_none (eo_some ev_c) (by omega)) ev_c (rv_eq rfl))) (neg_iff t)) (fun hb => ?_) (fun hb => ?_)) fun H1 e1 => ?_
  · refine ev_is (ev_slS (ev_var rfl) (eo_some ev_c) eo_none (by omega)) ?_
    unfold figS
    rw [if_pos hb]
  · refine ev_is (ev_var rfl) ?_
    unfold figS
    rw [if_neg (by rw [hb]; decide)]
  have hall : (sgn (figS t)).map (fun v => match v with | .str y => V.bl (decide (48 ≤ y.cps.toList.headD 0 ∧ y.cps.toList.headD 0 ≤ 57)) | _ => .non) = ((TL.tl (figS t)).map fun c => decide (48 ≤ c ∧ c ≤ 57)).map V.bl := by
    unfold sgn
    rw [List.map_map, List.map_map]
    rfl
  refine q_when (b := !(figOk t)) (et_is (et_or (et_not (et_test (ev_chain ev_c (ev_lenS (ev_var rfl) (by omega)) rv_I0 (fun _ => ev_c) fun _ => rv_I0))) fun _ =>
    et_not (et_B (ev_allN (bs := (TL.tl (figS t)).map fun c => decide (48 ≤ c ∧ c ≤ 57)) ?_))) ?_) (fun hb H2 e2 => ?_) (fun hb H2 e2 => ?_)
  · rw [← hall]
    refine el_map _ (src_str (ev_var rfl)) (by unfold sgn; rw [List.length_map]; show (TL.tl (figS t)).length ≤ 40000; rw [← tl_len]; omega) (fun _ => rfl) fun x H3 e3 hx => ?_
    obtain ⟨c, _, rfl⟩ := List.mem_map.mp hx
    refine ev_is (ev_op (ev_var rfl) ev_c rv_inSg) ?_
    rw [fig_in]
    rfl
  · unfold figOk
    rw [List.all_map]
    have ed : (decide ((1 : Int) ≤ ((figS t).length : Int)) && decide (((figS t).length : Int) ≤ 60)) = decide (1 ≤ (figS t).length ∧ (figS t).length ≤ 60) := by
      rw [← Bool.decide_and]
      exact decide_eq_decide.mpr (by omega)
    rw [ed, ← Bool.not_and]
    rfl
  · refine s_ret ev_c fun H3 e3 => ?_
    have q' := q H3 ((e1.trans e2).trans e3)
    rw [intOf_run hz, if_neg (by simpa using hb)] at q'
    exact q'
  · have hk : figOk t = true := by simpa using hb
    obtain ⟨hd, h60⟩ := figOk_dig hk
    have hv := intText_val (t := t) hd (by omega)
    have hb2 : (valL (TL.tl t)).natAbs.log2 < 1920 := log2_small (pow_mono (valL_lt hd h60) (by decide))
    have ei : ∀ {σ : L2.St} {H3 : Hp}, σ[0]? = some (some (.str t)) → Ev (tCB rIntStr (tCons (tVar 0) tNil)) σ H3 (.int (valL (TL.tl t))) := fun hs => ev_intS (ev_var hs) hv (by omega)
    refine s_ret (v := optI (intOf t)) (ev_if (b := decide (toS (valL (TL.tl t)) = t)) (et_is (et_test (ev_op (ev_strI (ei rfl) hb2) (ev_var rfl) (rv_eq rfl))) (decide_eq_decide.mpr ⟨fun h => V.str.inj h, fun h => congrArg V.str h⟩)) (fun hc => ?_) (fun hc => ?_)) fun H3 e3 => q H3 ((e1.trans e2).trans e3)
    · refine ev_is (ei rfl) ?_
      rw [intOf_run hz, if_pos hk, if_pos (of_decide_eq_true hc)]
      rfl
    · refine ev_is ev_c ?_
      rw [intOf_run hz, if_pos hk, if_neg (of_decide_eq_false hc)]
      rfl
theorem sc_integer_in : FnScope ["text", "figures", "sign"] ["text"] (defScope s_integer_in) := ⟨rfl, rfl, rfl, by decide +kernel, rfl, by decide +kernel, by decide +kernel⟩
theorem d_integer_in {P : Program} {w : World} {K : PySem.W.Frag} {mg : Str → Option Value} {base : Heap} (T : Txt K mg) {f : Addr} {cdv : Value} {A : Around} {outer : List Env} {s : Shared} {H : Hp} {E : XK} (hr : Room 0 (A.deeper (envOfC "integer_in" (defScope s_integer_in) s.heap.objs.size f cdv))) :
    PSs (cxOf CX0 P w K mg base ["text", "figures", "sign"] "integer_in" (defScope s_integer_in) f cdv A outer s H E).nox (defBody s_integer_in) (t_integer_in K) := by
  have hu := hu_of hr
  exact (pss_cons (ps_asg (pe_ifExp (pt_cmpR op_eq (pe_slice sl_str (pv 0) po_none (po_some pe_int)) pe_str (nomark _)) (pe_slice sl_str (pv 0) (po_some pe_int) po_none) (pv 0)) (pg_name (i := 1) sc_integer_in.nd rfl (Or.inl rfl)))
      (pss_cons (ps_if (PW.pt (pw_or (pt_not (pt_chain op_le op_le pe_int (pe_callB call_len_str (by rfl) T.b_len (by decide +kernel) (pa_cons (pv 1) pa_nil)) (pe_k T.k_MAX_FIGURES))) (pw_or1 (pt_not (pt_val (pe_callB (cr_all rfl) (by rfl) T.b_all (by decide +kernel) (pa_cons (pe_lc (own := [("sign", 2)]) rfl sc_integer_in.nd (pi_str (pv 1)) (blkOk_by (own := [("sign", 2)]) (N := ["text", "figures", "sign"]) (sc := defScope s_integer_in) (by decide +kernel)) (fun _ _ _ _ _ => (pg_name (i := 2) sc_integer_in.nd rfl (Or.inl rfl))) (fun _ _ _ _ _ => pts_nil) (fun _ _ _ _ _ => (pe_cmpR op_in_sign (pv 2) (pe_k T.k_FIGURES) (by rfl)))) pa_nil))))))) (pss_one (ps_ret pe_non)) pss_nil)
      (pss_one (ps_ret (pe_ifExp (pt_cmpR op_eq (pe_callTy call_str_int (by rfl) T.b_str (by decide +kernel) (pa_cons (pe_callTy call_int_str (by rfl) T.b_int (by decide +kernel) (pa_cons (pv 0) pa_nil)) pa_nil)) (pv 0) (nomark _)) (pe_callTy call_int_str (by rfl) T.b_int (by decide +kernel) (pa_cons (pv 0) pa_nil)) pe_non)))))
theorem ok_integer_in {P : Program} {w : World} {K : PySem.W.Frag} {mg : Str → Option Value} {base : Heap} (T : Txt K mg) : FnOk P w K mg base CX0 1 T.integer_in.f T.integer_in.fd ["text"] (sp_integer_in) :=
  ok0 T.integer_in.F sc_integer_in len_integer_in fun cdv A outer s H vs Q E hr h => ⟨t_integer_in K, d_integer_in T hr, pure_integer_in h⟩
theorem cl_integer_in {P : Program} {w : World} {K : PySem.W.Frag} {mg : Str → Option Value} {base : Heap} (T : Txt K mg) : Cl P w K mg base 1 "integer_in" sp_integer_in := cl_of T.integer_in (ok_integer_in T) fun _ _ _ _ _ _ us hl => match us, hl with | [_], _ => rfl

end K08

namespace K08
open PySem PySem.Spec PyProof.Rows L2 Evl
/-! ### instances with slots -/
section
variable {K : PySem.W.Frag} {σ : L2.St} {H H' : Hp} {ta tv : TE} {a C dx p : Addr} {i : Nat} {vs : List (Option V)} {y v : V} {f : Str} {D : Ends} {tz : TS}
theorem slt_ex (e : Ex H H') (h : SlX.Slt H a C dx vs) : SlX.Slt H' a C dx vs := by
  rcases h with ⟨h1, h2⟩ | ⟨h1, h2⟩
  · exact .inl ⟨e _ _ h1, h2⟩
  · exact .inr ⟨e _ _ h1, e _ _ h2⟩
theorem s_slot (hv : Ev tv σ H y) (ha : Ev ta σ H (.ref a)) (hs : SlX.Slt H a C dx vs) (c : SlX.SCls K C) (t : SlX.Slot1 K C f p i) (k : ∀ H1, Ex H H1 → D.nx σ (SlX.slH H1 a C dx (SlX.putS i y vs))) : SlX.sSl K ta tv f D σ H :=
  hv H (Ex.refl H) _ fun H1 e1 => ha H1 e1 _ fun H2 e2 => ⟨a, C, dx, p, vs, i, rfl, slt_ex (e1.trans e2) hs, c, t, k H2 (e1.trans e2)⟩
theorem q_slot (hv : Ev tv σ H y) (ha : Ev ta σ H (.ref a)) (hs : SlX.Slt H a C dx vs) (c : SlX.SCls K C) (t : SlX.Slot1 K C f p i) (k : ∀ H1, Ex H H1 → tz D σ (SlX.slH H1 a C dx (SlX.putS i y vs))) : tSeq (SlX.sSl K ta tv f) tz D σ H :=
  s_slot hv ha hs c t k
theorem ev_slot (ha : Ev ta σ H (.ref a)) (hs : SlX.Slt H a C dx vs) (c : SlX.SCls K C) (t : SlX.Slot1 K C f p i) (hv : vs[i]? = some (some v)) : Ev (SlX.tSl K ta f) σ H v := fun H1 e Q q =>
  ha H1 e _ fun H2 e2 => ⟨a, C, dx, p, vs, i, v, rfl, slt_ex (e.trans e2) hs, c, t, hv, q H2 e2⟩
/-- a store leaves what was known ahead of the instance -/
theorem slH_ex {H0 : Hp} (e : Ex H0 H) (h1 : H0 a = none) (h2 : H0 dx = none) : Ex H0 (SlX.slH H a C dx vs) := (e.mut h2).mut h1
end
/-- a ratio: its two slots (bottom first) -/
def RatA (C : Addr) (H : Hp) (a : Addr) (p q : Int) : Prop := ∃ dx, SlX.Slt H a C dx [some (.int q), some (.int p)]
theorem rat_ex {C : Addr} {H H' : Hp} {a : Addr} {p q : Int} (e : Ex H H') (h : RatA C H a p q) : RatA C H' a p q := let ⟨dx, h1⟩ := h; ⟨dx, slt_ex e h1⟩
theorem fnr_of {P : Program} {w : World} {K : PySem.W.Frag} {mg : Str → Option Value} {base : Heap} {CX : CXT} {k : Nat} {f : Addr} {fd : FuncData} {ps : List Str} {sp : Sp} (F : FnOk P w K mg base CX k f fd ps sp) (hb : Binds K fd ps []) : FnR P w K mg base CX k f sp :=
  (F.raw hb .nil).imp fun vs H Q E h => by
    show sp (vs ++ []) H Q E
    rw [List.append_nil]
    exact h

/-! ### Ratio.__init__ -/
def t_Ratio_init (K : PySem.W.Frag) : TS :=
  (tSeq (tIfS (tAnd (tNot (tB (tVar 3))) (tOr (tNot (tB (tCl sp_is_integer (tCons (tVar 1) tNil)))) (tOr (tNot (tB (tCl sp_is_integer (tCons (tVar 2) tNil)))) (tTest (tOp rLtI (tVar 2) (tC (.int 1))))))) tNever tNext)
    (tSeq (tAsg (tCl sp_common_divisor (tCons (tVar 1) (tCons (tVar 2) tNil))) (gName 4))
    (tSeq (SlX.sSl K (tVar 0) (tOp rDivW (tVar 1) (tVar 4)) "own_top")
    (SlX.sSl K (tVar 0) (tOp rDivW (tVar 2) (tVar 4)) "own_bottom"))))
def sp_Ratio_init (C : Addr) : Sp := fun vs H Q _ => ∃ (x dx : Addr) (p q : Int) (H0 : Hp), vs = [.ref x, .int p, .int q, .bl false] ∧ H x = some (.ins C dx []) ∧ dx ≠ x ∧ Ex H0 H ∧ H0 x = none ∧ H0 dx = none ∧ isInt60 p = true ∧ isInt60 q = true ∧ 1 ≤ q ∧ ∀ H', Ex H0 H' → RatA C H' x (p / (Int.gcd p q : Int)) (q / (Int.gcd p q : Int)) → Q .non H'
theorem len_Ratio_init {C : Addr} : ∀ vs H Q E, sp_Ratio_init C vs H Q E → vs.length = 4 := fun vs H Q E ⟨_, _, _, _, _, e, _⟩ => by rw [e]; rfl
theorem spv_is_integer {H : Hp} {i : Int} : SpV sp_is_integer [.int i] H (.bl (isInt60 i)) := fun H1 _ Q q E => ⟨i, rfl, q⟩
theorem spv_common_divisor {H : Hp} {i j : Int} (h : 0 ≤ j) : SpV sp_common_divisor [.int i, .int j] H (.int (Int.gcd i j : Int)) := fun H1 _ Q q E => ⟨i, j, rfl, h, q⟩
theorem pow60 : (10 : Int) ^ 60 ≤ ((2 ^ 200 : Nat) : Int) := by decide
theorem isInt60_ok {i : Int} (h : isInt60 i = true) : i.natAbs < 2 ^ 200 := by
  have h1 := of_decide_eq_true h
  have := pow60
  omega
theorem gcd_ok {p q : Int} (hq : 1 ≤ q) (h : isInt60 q = true) : (0 : Int) < (Int.gcd p q : Int) ∧ Int.gcd p q < 2 ^ 200 := by
  have h0 : Int.gcd p q ≠ 0 := fun e => by
    have := (Int.gcd_eq_zero_iff.mp e).2
    omega
  have h1 : Int.gcd p q ∣ q.natAbs := by
    have : ((Int.gcd p q : Nat) : Int) ∣ q := Int.gcd_dvd_right ..
    exact Int.ofNat_dvd_left.mp this
  have := Nat.le_of_dvd (by omega) h1
  have := isInt60_ok h
  exact ⟨by omega, by omega⟩
theorem div_gcd {p q : Int} (hq : 1 ≤ q) (h : isInt60 q = true) : CDivW p (Int.gcd p q : Int) :=
  wide_div (b := 200) (gcd_ok hq h).1 (by have := (gcd_ok (p := p) hq h).2; simpa using this) (by decide) (by decide)
theorem pure_Ratio_init {K : PySem.W.Frag} {mg : Str → Option Value} (T : Txt K mg) {vs : List V} {H : Hp} {Q : VK} {E : XK} (h : sp_Ratio_init T.Ratio.C vs H Q E) : t_Ratio_init K { nx := fun _ H' => Q .non H', rt := Q } (start ["self", "top", "bottom", "is_exact", "common"] vs) H := by
  obtain ⟨x, dx, p, q, H0, rfl, hx, hne, e0, x0, d0, hp, hq, h1, k⟩ := h
  refine q_when (b := false) (et_is (et_and (et_not (et_B (ev_var rfl))) fun _ => et_or (et_not (et_B (ev_cl (ea_cons (ev_var rfl) ea_nil) spv_is_integer))) fun _ => et_or
    (et_not (et_B (ev_cl (ea_cons (ev_var rfl) ea_nil) spv_is_integer))) fun _ => et_test (ev_op (ev_var rfl) ev_c rv_I0)) (by rw [hp, hq, show decide (q < 1) = false from decide_eq_false (by omega)]; rfl)) (fun hb => by cases hb) fun _ H1 e1 => ?_
  refine q_asg (ev_cl (ea_cons (ev_var rfl) (ea_cons (ev_var rfl) ea_nil)) (spv_common_divisor (by omega))) fun H2 e2 => ?_
  refine q_slot (ev_op (ev_var rfl) (ev_var rfl) (rv_I (div_gcd h1 hq))) (ev_var rfl) (.inl ⟨e2 _ _ (e1 _ _ hx), rfl⟩) T.Ratio.sc T.ratTop.s fun H3 e3 => ?_
  refine s_slot (ev_op (ev_var rfl) (ev_var rfl) (rv_I (div_gcd h1 hq))) (ev_var rfl) (SlX.slH_slt hne) T.Ratio.sc T.ratBot.s fun H4 e4 => ?_
  have e13 : Ex H0 (SlX.slH H3 x T.Ratio.C dx (SlX.putS 1 (.int (p / (Int.gcd p q : Int))) [])) := slH_ex (((e0.trans e1).trans e2).trans e3) x0 d0
  exact k _ (slH_ex (e13.trans e4) x0 d0) ⟨dx, SlX.slH_slt hne⟩
theorem sc_Ratio_init : FnScope ["self", "top", "bottom", "is_exact", "common"] ["self", "top", "bottom", "is_exact"] (defScope s_Ratio_init) := ⟨rfl, rfl, rfl, by decide +kernel, rfl, by decide +kernel, by decide +kernel⟩
theorem d_Ratio_init {P : Program} {w : World} {K : PySem.W.Frag} {mg : Str → Option Value} {base : Heap} (T : Txt K mg) {f : Addr} {cdv : Value} {A : Around} {outer : List Env} {s : Shared} {H : Hp} {E : XK} (hr : Room 1 (A.deeper (envOfC "Ratio.__init__" (defScope s_Ratio_init) s.heap.objs.size f cdv))) :
    PSs (cxOf CX0 P w K mg base ["self", "top", "bottom", "is_exact", "common"] "Ratio.__init__" (defScope s_Ratio_init) f cdv A outer s H E).nox (defBody s_Ratio_init) (t_Ratio_init K) := by
  have hu := hu_of hr
  exact (pss_cons (ps_if (PW.pt (pw_and (pt_not (pt_val (pv 3))) (pw_and1 (PW.pt (pw_or (pt_not (pt_val (pe_cl (cl_is_integer T) hr (pa_cons (pv 1) pa_nil)))) (pw_or (pt_not (pt_val (pe_cl (cl_is_integer T) hr (pa_cons (pv 2) pa_nil)))) (pw_or1 (pt_cmpR op_lt (pv 2) pe_int (nomark _))))))))) (pss_one ps_never) pss_nil)
      (pss_cons (ps_asg (pe_cl (cl_common_divisor T) hr (pa_cons (pv 1) (pa_cons (pv 2) pa_nil))) (pg_name (i := 4) sc_Ratio_init.nd rfl (Or.inl rfl)))
      (pss_cons (SlX.ps_sl (pv 0) (pe_op op_fdivW (pv 1) (pv 4)))
      (pss_one (SlX.ps_sl (pv 0) (pe_op op_fdivW (pv 2) (pv 4)))))))
theorem ok_Ratio_init {P : Program} {w : World} {K : PySem.W.Frag} {mg : Str → Option Value} {base : Heap} (T : Txt K mg) : FnOk P w K mg base CX0 2 T.Ratio_init.f T.Ratio_init.fd ["self", "top", "bottom", "is_exact"] (sp_Ratio_init T.Ratio.C) :=
  ok0 T.Ratio_init.F sc_Ratio_init len_Ratio_init fun cdv A outer s H vs Q E hr h => ⟨t_Ratio_init K, d_Ratio_init T hr, pure_Ratio_init T h⟩
theorem b_Ratio_init {K : PySem.W.Frag} {mg : Str → Option Value} (T : Txt K mg) : ∃ ds, Vals [.bl false] ds ∧ Binds K T.Ratio_init.fd ["self", "top", "bottom", "is_exact"] ds :=
  T.Ratio_init.F.binds0 3 (by decide) rfl fun D doc pm an cdv ct us ks hl hk => match us, hl, ks, hk with
    | [_, _, _], _, [_], _ => ⟨_, _, _, _, _, _, rfl, rfl, rfl⟩

/-! ### Ratio.__eq__ -/
def t_Ratio_eq (K : PySem.W.Frag) (C : Addr) : TS :=
  (tSeq (tIfS (tNot (tB (tCB (SlX.rIsiSl K (.ref C)) (tCons (tVar 1) (tCons (tC (.ref C)) tNil))))) (tRet (tC (.bl false))) tNext)
    (tRet (tAndV (tOp rEq (SlX.tSl K (tVar 0) "own_top") (SlX.tSl K (tVar 1) "own_top")) (tOp rEq (SlX.tSl K (tVar 0) "own_bottom") (SlX.tSl K (tVar 1) "own_bottom")))))
def sp_Ratio_eq (C : Addr) : Sp := fun vs H Q _ => ∃ (a b : Addr) (p q p' q' : Int), vs = [.ref a, .ref b] ∧ RatA C H a p q ∧ RatA C H b p' q' ∧ ∀ H', Ex H H' → Q (.bl (decide (p = p') && decide (q = q'))) H'
theorem len_Ratio_eq {C : Addr} : ∀ vs H Q E, sp_Ratio_eq C vs H Q E → vs.length = 2 := fun vs H Q E ⟨_, _, _, _, _, _, e, _⟩ => by rw [e]; rfl
theorem ev_isSl {K : PySem.W.Frag} {σ : L2.St} {H : Hp} {ta tb : TE} {a C dx D : Addr} {vs : List (Option V)} {b : Bool} (ha : Ev ta σ H (.ref a)) (hb : Ev tb σ H (.ref D)) (hs : SlX.Slt H a C dx vs) (c : SlX.SCls K C) (si : SlX.SIsi K C) (k : PySem.W.kitOne K (.ref C) (.ref D) = some b) : Ev (tCB (SlX.rIsiSl K (.ref D)) (tCons ta (tCons tb tNil))) σ H (.bl b) := fun H1 e Q q =>
  ha H1 e _ fun H2 e2 => hb H2 (e.trans e2) _ fun H3 e3 => ⟨a, C, dx, vs, .ref D, b, rfl, rfl, fun w r => r, slt_ex ((e.trans e2).trans e3) hs, c, si, k, q H3 (e2.trans e3)⟩
theorem int_eq_bl {i j : Int} : decide (V.int i = V.int j) = decide (i = j) := decide_eq_decide.mpr ⟨fun h => V.int.inj h, fun h => congrArg V.int h⟩
theorem str_eq_bl {i j : Str} : decide (V.str i = V.str j) = decide (i = j) := decide_eq_decide.mpr ⟨fun h => V.str.inj h, fun h => congrArg V.str h⟩
theorem pure_Ratio_eq {K : PySem.W.Frag} {mg : Str → Option Value} (T : Txt K mg) {vs : List V} {H : Hp} {Q : VK} {E : XK} (h : sp_Ratio_eq T.Ratio.C vs H Q E) : t_Ratio_eq K T.Ratio.C { nx := fun _ H' => Q .non H', rt := Q } (start ["self", "other"] vs) H := by
  obtain ⟨a, b, p, q, p', q', rfl, ⟨da, ha⟩, ⟨db, hb⟩, k⟩ := h
  refine q_when (b := false) (et_not (et_B (ev_isSl (ev_var rfl) ev_c hb T.Ratio.sc T.Ratio.si T.ratKit))) (fun hb => by cases hb) fun _ H1 e1 => ?_
  refine s_ret (ev_andV (ev_op (ev_slot (ev_var rfl) (slt_ex e1 ha) T.Ratio.sc T.ratTop.s rfl) (ev_slot (ev_var rfl) (slt_ex e1 hb) T.Ratio.sc T.ratTop.s rfl) (rv_eq rfl))
    fun _ => ev_op (ev_slot (ev_var rfl) (slt_ex e1 ha) T.Ratio.sc T.ratBot.s rfl) (ev_slot (ev_var rfl) (slt_ex e1 hb) T.Ratio.sc T.ratBot.s rfl) (rv_eq rfl)) fun H2 e2 => ?_
  rw [int_eq_bl, int_eq_bl]
  exact k H2 (e1.trans e2)
theorem sc_Ratio_eq : FnScope ["self", "other"] ["self", "other"] (defScope s_Ratio_eq) := ⟨rfl, rfl, rfl, by decide +kernel, rfl, by decide +kernel, by decide +kernel⟩
theorem d_Ratio_eq {P : Program} {w : World} {K : PySem.W.Frag} {mg : Str → Option Value} {base : Heap} (T : Txt K mg) {f : Addr} {cdv : Value} {A : Around} {outer : List Env} {s : Shared} {H : Hp} {E : XK} (hr : Room 0 (A.deeper (envOfC "Ratio.__eq__" (defScope s_Ratio_eq) s.heap.objs.size f cdv))) :
    PSs (cxOf CX0 P w K mg base ["self", "other"] "Ratio.__eq__" (defScope s_Ratio_eq) f cdv A outer s H E).nox (defBody s_Ratio_eq) (t_Ratio_eq K T.Ratio.C) := by
  have hu := hu_of hr
  exact (pss_cons (ps_if (pt_not (pt_val (pe_callB (SlX.call_isiSl (.ref T.Ratio.C)) (by rfl) T.b_isinstance (by decide +kernel) (pa_cons (pv 1) (pa_cons (pe_glob rfl T.Ratio.g rfl rfl) pa_nil))))) (pss_one (ps_ret pe_bl)) pss_nil)
      (pss_one (ps_ret (pe_and (pe_cmpR op_eq (SlX.pe_sl (pv 0)) (SlX.pe_sl (pv 1)) (nomark _)) (pe_one (pe_cmpR op_eq (SlX.pe_sl (pv 0)) (SlX.pe_sl (pv 1)) (nomark _)))))))
theorem ok_Ratio_eq {P : Program} {w : World} {K : PySem.W.Frag} {mg : Str → Option Value} {base : Heap} (T : Txt K mg) : FnOk P w K mg base CX0 1 T.Ratio_eq.f T.Ratio_eq.fd ["self", "other"] (sp_Ratio_eq T.Ratio.C) :=
  ok0 T.Ratio_eq.F sc_Ratio_eq len_Ratio_eq fun cdv A outer s H vs Q E hr h => ⟨t_Ratio_eq K T.Ratio.C, d_Ratio_eq T hr, pure_Ratio_eq T h⟩
theorem b_Ratio_eq {K : PySem.W.Frag} {mg : Str → Option Value} (T : Txt K mg) : Binds K T.Ratio_eq.fd ["self", "other"] [] := T.Ratio_eq.F.bindsN fun _ _ _ _ _ _ us hl => match us, hl with | [_, _], _ => rfl
theorem r_Ratio_eq {P : Program} {w : World} {K : PySem.W.Frag} {mg : Str → Option Value} {base : Heap} (T : Txt K mg) : FnR P w K mg base CX0 1 T.Ratio_eq.f (sp_Ratio_eq T.Ratio.C) := fnr_of (ok_Ratio_eq T) (T.Ratio_eq.F.bindsN fun _ _ _ _ _ _ us hl => match us, hl with | [_, _], _ => rfl)

/-! ### Ratio.__str__ -/
def t_Ratio_str (K : PySem.W.Frag) : TS :=
  (tSeq (tIfS (tTest (tOp rEq (SlX.tSl K (tVar 0) "own_bottom") (tC (.int 1)))) (tRet (tCB rStrInt (tCons (SlX.tSl K (tVar 0) "own_top") tNil))) tNext)
    (tRet (tJoined [(tFmt (SlX.tSl K (tVar 0) "own_top")), (tC (.str "/")), (tFmt (SlX.tSl K (tVar 0) "own_bottom"))])))
/-- a ratio's text -/
def ratText (p q : Int) : Str := if q = 1 then toS p else toS p ++ ("/" ++ toS q)
/-- small enough for str -/
def okInt (i : Int) : Prop := i.natAbs < 10 ^ 120
theorem okInt_log {i : Int} (h : okInt i) : i.natAbs.log2 < 1920 := log2_small (pow_mono h (by decide))
theorem toS_len {n : Int} {k : Nat} (hk : 0 < k) (h : n.natAbs < 10 ^ k) : (toS n).length ≤ k + 1 := by
  rw [tl_len]
  rcases int_two n with ⟨j, rfl⟩ | ⟨j, rfl⟩
  · rw [tl_toS_nat]
    have := TL.numL_len hk (n := j) (by simpa using h)
    omega
  · rw [tl_toS_neg, List.length_cons]
    have := TL.numL_len hk (n := j + 1) (by have h2 := h; rw [Int.natAbs_neg] at h2; exact h2)
    omega
theorem okInt_len {i : Int} (h : okInt i) : (toS i).length ≤ 121 := toS_len (by decide) h
theorem len_app (x y : Str) : (x ++ y).length = x.length + y.length := by rw [tl_len, tl_len, tl_len, TL.tl_append, List.length_append]
theorem empty_app (x : Str) : Str.empty ++ x = x := TL.ext_tl (by rw [TL.tl_append]; rfl)
theorem app_assoc (x y z : Str) : x ++ y ++ z = x ++ (y ++ z) := TL.ext_tl (by rw [TL.tl_append, TL.tl_append, TL.tl_append, TL.tl_append, List.append_assoc])
theorem ratText_len {p q : Int} (h1 : okInt p) (h2 : okInt q) : (ratText p q).length ≤ 300 := by
  have := okInt_len h1
  have := okInt_len h2
  unfold ratText
  split
  · omega
  · rw [len_app, len_app]
    have : ("/" : Str).length = 1 := rfl
    omega
def sp_Ratio_str (C : Addr) : Sp := fun vs H Q _ => ∃ (a : Addr) (p q : Int), vs = [.ref a] ∧ RatA C H a p q ∧ okInt p ∧ okInt q ∧ ∀ H', Ex H H' → Q (.str (ratText p q)) H'
theorem len_Ratio_str {C : Addr} : ∀ vs H Q E, sp_Ratio_str C vs H Q E → vs.length = 1 := fun vs H Q E ⟨_, _, _, e, _⟩ => by rw [e]; rfl
theorem pure_Ratio_str {K : PySem.W.Frag} {mg : Str → Option Value} (T : Txt K mg) {vs : List V} {H : Hp} {Q : VK} {E : XK} (h : sp_Ratio_str T.Ratio.C vs H Q E) : t_Ratio_str K { nx := fun _ H' => Q .non H', rt := Q } (start ["self"] vs) H := by
  obtain ⟨a, p, q, rfl, ⟨da, ha⟩, hp, hq, k⟩ := h
  have l1 := okInt_len hp
  have l2 := okInt_len hq
  have lS : ("/" : Str).length = 1 := rfl
  have top : ∀ {H1 : Hp}, Ex H H1 → Ev (SlX.tSl K (tVar 0) "own_top") [some (.ref a)] H1 (.int p) := fun e => ev_slot (ev_var rfl) (slt_ex e ha) T.Ratio.sc T.ratTop.s rfl
  have bot : ∀ {H1 : Hp}, Ex H H1 → Ev (SlX.tSl K (tVar 0) "own_bottom") [some (.ref a)] H1 (.int q) := fun e => ev_slot (ev_var rfl) (slt_ex e ha) T.Ratio.sc T.ratBot.s rfl
  refine q_when (b := decide (q = 1)) (et_is (et_test (ev_op (bot (Ex.refl H)) ev_c (rv_eq rfl))) int_eq_bl) (fun hb H1 e1 => ?_) (fun hb H1 e1 => ?_)
  · refine s_ret (ev_strI (top e1) (okInt_log hp)) fun H2 e2 => ?_
    have k' := k H2 (e1.trans e2)
    unfold ratText at k'
    rw [if_pos (of_decide_eq_true hb)] at k'
    exact k'
  · refine s_ret (ev_joined (.cons (ev_fmtI (top e1) (okInt_log hp)) ?_ (.cons ev_c ?_ (.cons (ev_fmtI (bot e1) (okInt_log hq)) ?_ .nil)))) fun H2 e2 => ?_
    · rw [empty_app]
      show (toS p).length ≤ 100000
      omega
    · rw [empty_app, len_app]
      show (toS p).length + _ ≤ 100000
      omega
    · rw [empty_app, len_app, len_app]
      show (toS p).length + _ + (toS q).length ≤ 100000
      omega
    · have k' := k H2 (e1.trans e2)
      unfold ratText at k'
      rw [if_neg (of_decide_eq_false hb), ← app_assoc, ← empty_app (toS p)] at k'
      exact k'
theorem sc_Ratio_str : FnScope ["self"] ["self"] (defScope s_Ratio_str) := ⟨rfl, rfl, rfl, by decide +kernel, rfl, by decide +kernel, by decide +kernel⟩
theorem d_Ratio_str {P : Program} {w : World} {K : PySem.W.Frag} {mg : Str → Option Value} {base : Heap} (T : Txt K mg) {f : Addr} {cdv : Value} {A : Around} {outer : List Env} {s : Shared} {H : Hp} {E : XK} (hr : Room 0 (A.deeper (envOfC "Ratio.__str__" (defScope s_Ratio_str) s.heap.objs.size f cdv))) :
    PSs (cxOf CX0 P w K mg base ["self"] "Ratio.__str__" (defScope s_Ratio_str) f cdv A outer s H E).nox (defBody s_Ratio_str) (t_Ratio_str K) := by
  have hu := hu_of hr
  exact (pss_cons (ps_if (pt_cmpR op_eq (SlX.pe_sl (pv 0)) pe_int (nomark _)) (pss_one (ps_ret (pe_callTy call_str_int (by rfl) T.b_str (by decide +kernel) (pa_cons (SlX.pe_sl (pv 0)) pa_nil)))) pss_nil)
      (pss_one (ps_ret (pe_joined (.cons (pe_fmt (SlX.pe_sl (pv 0))) (.cons pe_str (.cons (pe_fmt (SlX.pe_sl (pv 0))) .nil)))))))
theorem ok_Ratio_str {P : Program} {w : World} {K : PySem.W.Frag} {mg : Str → Option Value} {base : Heap} (T : Txt K mg) : FnOk P w K mg base CX0 1 T.Ratio_str.f T.Ratio_str.fd ["self"] (sp_Ratio_str T.Ratio.C) :=
  ok0 T.Ratio_str.F sc_Ratio_str len_Ratio_str fun cdv A outer s H vs Q E hr h => ⟨t_Ratio_str K, d_Ratio_str T hr, pure_Ratio_str T h⟩
theorem b_Ratio_str {K : PySem.W.Frag} {mg : Str → Option Value} (T : Txt K mg) : Binds K T.Ratio_str.fd ["self"] [] := T.Ratio_str.F.bindsN fun _ _ _ _ _ _ us hl => match us, hl with | [_], _ => rfl
theorem r_Ratio_str {P : Program} {w : World} {K : PySem.W.Frag} {mg : Str → Option Value} {base : Heap} (T : Txt K mg) : FnR P w K mg base CX0 1 T.Ratio_str.f (sp_Ratio_str T.Ratio.C) := fnr_of (ok_Ratio_str T) (T.Ratio_str.F.bindsN fun _ _ _ _ _ _ us hl => match us, hl with | [_], _ => rfl)

/-! ### Ratio.top -/
def t_Ratio_top (K : PySem.W.Frag) : TS :=
  (tRet (SlX.tSl K (tVar 0) "own_top"))
def sp_Ratio_top (C : Addr) : Sp := fun vs H Q _ => ∃ (a : Addr) (p q : Int), vs = [.ref a] ∧ RatA C H a p q ∧ ∀ H', Ex H H' → Q (.int p) H'
theorem len_Ratio_top {C : Addr} : ∀ vs H Q E, sp_Ratio_top C vs H Q E → vs.length = 1 := fun vs H Q E ⟨_, _, _, e, _⟩ => by rw [e]; rfl
theorem pure_Ratio_top {K : PySem.W.Frag} {mg : Str → Option Value} (T : Txt K mg) {vs : List V} {H : Hp} {Q : VK} {E : XK} (h : sp_Ratio_top T.Ratio.C vs H Q E) : t_Ratio_top K { nx := fun _ H' => Q .non H', rt := Q } (start ["self"] vs) H := by
  obtain ⟨a, p, q, rfl, ⟨da, ha⟩, k⟩ := h
  exact s_ret (ev_slot (ev_var rfl) ha T.Ratio.sc T.ratTop.s rfl) k
theorem sc_Ratio_top : FnScope ["self"] ["self"] (defScope s_Ratio_top) := ⟨rfl, rfl, rfl, by decide +kernel, rfl, by decide +kernel, by decide +kernel⟩
theorem d_Ratio_top {P : Program} {w : World} {K : PySem.W.Frag} {mg : Str → Option Value} {base : Heap} (T : Txt K mg) {f : Addr} {cdv : Value} {A : Around} {outer : List Env} {s : Shared} {H : Hp} {E : XK} (hr : Room 0 (A.deeper (envOfC "Ratio.top" (defScope s_Ratio_top) s.heap.objs.size f cdv))) :
    PSs (cxOf CX0 P w K mg base ["self"] "Ratio.top" (defScope s_Ratio_top) f cdv A outer s H E).nox (defBody s_Ratio_top) (t_Ratio_top K) := by
  have hu := hu_of hr
  exact (pss_one (ps_ret (SlX.pe_sl (pv 0))))
theorem ok_Ratio_top {P : Program} {w : World} {K : PySem.W.Frag} {mg : Str → Option Value} {base : Heap} (T : Txt K mg) : FnOk P w K mg base CX0 1 T.Ratio_top.f T.Ratio_top.fd ["self"] (sp_Ratio_top T.Ratio.C) :=
  ok0 T.Ratio_top.F sc_Ratio_top len_Ratio_top fun cdv A outer s H vs Q E hr h => ⟨t_Ratio_top K, d_Ratio_top T hr, pure_Ratio_top T h⟩
theorem b_Ratio_top {K : PySem.W.Frag} {mg : Str → Option Value} (T : Txt K mg) : Binds K T.Ratio_top.fd ["self"] [] := T.Ratio_top.F.bindsN fun _ _ _ _ _ _ us hl => match us, hl with | [_], _ => rfl
theorem r_Ratio_top {P : Program} {w : World} {K : PySem.W.Frag} {mg : Str → Option Value} {base : Heap} (T : Txt K mg) : FnR P w K mg base CX0 1 T.Ratio_top.f (sp_Ratio_top T.Ratio.C) := fnr_of (ok_Ratio_top T) (T.Ratio_top.F.bindsN fun _ _ _ _ _ _ us hl => match us, hl with | [_], _ => rfl)

/-! ### Ratio.bottom -/
def t_Ratio_bottom (K : PySem.W.Frag) : TS :=
  (tRet (SlX.tSl K (tVar 0) "own_bottom"))
def sp_Ratio_bottom (C : Addr) : Sp := fun vs H Q _ => ∃ (a : Addr) (p q : Int), vs = [.ref a] ∧ RatA C H a p q ∧ ∀ H', Ex H H' → Q (.int q) H'
theorem len_Ratio_bottom {C : Addr} : ∀ vs H Q E, sp_Ratio_bottom C vs H Q E → vs.length = 1 := fun vs H Q E ⟨_, _, _, e, _⟩ => by rw [e]; rfl
theorem pure_Ratio_bottom {K : PySem.W.Frag} {mg : Str → Option Value} (T : Txt K mg) {vs : List V} {H : Hp} {Q : VK} {E : XK} (h : sp_Ratio_bottom T.Ratio.C vs H Q E) : t_Ratio_bottom K { nx := fun _ H' => Q .non H', rt := Q } (start ["self"] vs) H := by
  obtain ⟨a, p, q, rfl, ⟨da, ha⟩, k⟩ := h
  exact s_ret (ev_slot (ev_var rfl) ha T.Ratio.sc T.ratBot.s rfl) k
theorem sc_Ratio_bottom : FnScope ["self"] ["self"] (defScope s_Ratio_bottom) := ⟨rfl, rfl, rfl, by decide +kernel, rfl, by decide +kernel, by decide +kernel⟩
theorem d_Ratio_bottom {P : Program} {w : World} {K : PySem.W.Frag} {mg : Str → Option Value} {base : Heap} (T : Txt K mg) {f : Addr} {cdv : Value} {A : Around} {outer : List Env} {s : Shared} {H : Hp} {E : XK} (hr : Room 0 (A.deeper (envOfC "Ratio.bottom" (defScope s_Ratio_bottom) s.heap.objs.size f cdv))) :
    PSs (cxOf CX0 P w K mg base ["self"] "Ratio.bottom" (defScope s_Ratio_bottom) f cdv A outer s H E).nox (defBody s_Ratio_bottom) (t_Ratio_bottom K) := by
  have hu := hu_of hr
  exact (pss_one (ps_ret (SlX.pe_sl (pv 0))))
theorem ok_Ratio_bottom {P : Program} {w : World} {K : PySem.W.Frag} {mg : Str → Option Value} {base : Heap} (T : Txt K mg) : FnOk P w K mg base CX0 1 T.Ratio_bottom.f T.Ratio_bottom.fd ["self"] (sp_Ratio_bottom T.Ratio.C) :=
  ok0 T.Ratio_bottom.F sc_Ratio_bottom len_Ratio_bottom fun cdv A outer s H vs Q E hr h => ⟨t_Ratio_bottom K, d_Ratio_bottom T hr, pure_Ratio_bottom T h⟩
theorem b_Ratio_bottom {K : PySem.W.Frag} {mg : Str → Option Value} (T : Txt K mg) : Binds K T.Ratio_bottom.fd ["self"] [] := T.Ratio_bottom.F.bindsN fun _ _ _ _ _ _ us hl => match us, hl with | [_], _ => rfl
theorem r_Ratio_bottom {P : Program} {w : World} {K : PySem.W.Frag} {mg : Str → Option Value} {base : Heap} (T : Txt K mg) : FnR P w K mg base CX0 1 T.Ratio_bottom.f (sp_Ratio_bottom T.Ratio.C) := fnr_of (ok_Ratio_bottom T) (T.Ratio_bottom.F.bindsN fun _ _ _ _ _ _ us hl => match us, hl with | [_], _ => rfl)

end K08

namespace K08
open PySem PySem.Spec PyProof.Rows L2 Evl
/-! ### own classes: str(x), {x}, x != y, a class called by a local name, a classmethod called without arguments -/
section
open PySem.W PyProof.Rows Builtin
variable {prog : Program} {w : World} {A : Around} {E : Value → Shared → Prop} {s : Shared} {K : Frag} {x C f : Addr} {ox : Obj} {od : Option Obj} {b tb : Value}
theorem ifBound_blt {M : Model} {name : Str} {id : String} {args : List Value} {Q : Option Value → Shared → Prop} (X : K.In s.heap) (I : InstAt s.heap x ox C od) (hs : findIn K (.ref C) name = some (some (.builtin id)))
    (hb : ∀ self, bindSpecial (.builtin id) self = pure (.builtin id, [self])) (h : wpAny M A (call (.builtin id) (.ref x :: args)) (fun v => Q (some v)) E s) : wpAny M A (callSpecialIfBound? (.ref x) name args) Q E s := by
  simp only [callSpecialIfBound?, bindSpecialIfBound?]
  refine wpAny_holding (wpAny_bind (wpAny_bind (wpAny_bind (I.type.here ((looks_findIn X hs).here ?_)))))
  refine wpAny_bind (wpAny_askSetting (wpAny_ite ?_))
  have fin : wpAny M A (call (.builtin id) ([.ref x] ++ args) >>= fun v => pure (some v)) Q E s := wpAny_bind (wpAny_mono h (fun v s' h' => wpAny_pure h') fun _ _ h' => h')
  split
  · exact wpAny_bind ((Looks.of_pure (hb _)).here (wpAny_pure (by exact fin)))
  · exact wpAny_tryCatch (wpAny_bind ((Looks.of_pure (hb _)).here (wpAny_pure (by exact fin))))
theorem ne_obj {Q : Value → Shared → Prop} (hu : A.in1.units < cLine) (X : K.In s.heap) (I : InstAt s.heap x ox C od) (hm : mroIn K C (.type "object") = some true) (hs : findIn K (.ref C) "__eq__" = some (some (.ref f))) (hf : isFn K (.ref f) = true)
    (h : wpAny (model prog w) A.in1 (call (.ref f) [.ref x, b]) (fun v s' => ∃ c, v = .bool c ∧ Q (.bool (!c)) s') E s) : wpAny (model prog w) A (call (.builtin "object.__ne__") [.ref x, b]) Q E s := by
  refine wpAny_call (codeAny_call_builtin PySem.F.slot_object_ne.plain PySem.F.cmpEntry_ne (check_slot (i := "object.__ne__") (owner := "object") (n := "__ne__") PySem.F.cmpKind_ne PySem.F.cmpSplit_ne (I.type.andThen (looks_mroIn X hm)) (PySem.F.cmpArgs_ne _ _) ?_))
  unfold Builtin.«object.__ne__»
  refine wpAny_bind (m := slotArgs "__ne__" 1 _) (wpAny_pure ?_)
  refine wpAny_bind (m := cRoomFor _ _) (wpAny_cRoomFor hu ?_)
  refine wpAny_bind (m := callSpecialIfBound? (.ref x) (Str.ofString "__eq__") _) (ifBound_K X I hs hf (wpAny_mono h (fun r s' hq => ?_) fun _ _ y => y))
  obtain ⟨c, rfl, hq⟩ := hq
  exact wpAny_bind (wpAny_truthy_bool (wpAny_pure hq))
theorem ne_own {Q : Value → Shared → Prop} (hu : A.in1.units < cLine) (hu0 : A.units < cLine) (X : K.In s.heap) (I : InstAt s.heap x ox C od) (hb : Looks (model prog w) s.heap (typeOf b) tb) (hn : notFirst K C tb = true)
    (hne : findIn K (.ref C) "__ne__" = some (some (.builtin "object.__ne__"))) (hm : mroIn K C (.type "object") = some true) (hs : findIn K (.ref C) "__eq__" = some (some (.ref f))) (hf : isFn K (.ref f) = true)
    (h : wpAny (model prog w) A.in1 (call (.ref f) [.ref x, b]) (fun v s' => ∃ c, v = .bool c ∧ Q (.bool (!c)) s') E s) : wpAny (model prog w) A (richCompare .NotEq (.ref x) b) Q E s := by
  have one : wpAny (model prog w) A (tryCompare (.ref x) (cmpInfo .NotEq).2.1 b) (fun r s' => ∃ v, r = some v ∧ Q v s') E s := by
    unfold tryCompare
    refine wpAny_bind (ifBound_blt X I hne PySem.F.slot_object_ne.bind (ne_obj hu X I hm hs hf (wpAny_mono h (fun v s' hv => ?_) fun _ _ e => e)))
    obtain ⟨c, rfl, hq⟩ := hv
    exact ⟨c, rfl, wpAny_pure ⟨_, rfl, hq⟩⟩
  unfold richCompare
  simp only [oneThing_ref]
  refine wpAny_holding (wpAny_bind (wpAny_cRoomFor hu0 ?_))
  refine wpAny_bind (I.type.here (wpAny_bind (hb.here ?_)))
  split
  · rename_i q
    have e : subIn K tb (.ref C) = some false := by
      rcases Bool.or_eq_true_iff.mp hn with e | e
      · rw [beq_iff_eq.mp e] at q; simp at q
      · exact beq_iff_eq.mp e
    refine wpAny_bind ((looks_subIn X e).here ?_)
    simp only [Bool.false_eq_true, if_false]
    refine wpAny_bind (wpAny_mono one (fun r s' z => ?_) fun _ _ e => e)
    obtain ⟨v, rfl, hq⟩ := z
    exact wpAny_pure hq
  · refine wpAny_bind (wpAny_pure ?_)
    simp only [Bool.false_eq_true, if_false]
    refine wpAny_bind (wpAny_mono one (fun r s' z => ?_) fun _ _ e => e)
    obtain ⟨v, rfl, hq⟩ := z
    exact wpAny_pure hq
end
section
open SlX
variable {X : Cx} {CX : CXT} {C g : Addr} {n : Nat} {sp : Sp} {E : XK}
/-- str(x) of an instance -/
def rStrOwn (C : Addr) (sp : Sp) (E : XK) : List V → Hp → VK → Prop := fun xs H Q => ∃ a dx vs, xs = [V.ref a] ∧ Slt H a C dx vs ∧ sp [.ref a] H (fun z H' => ∃ y, z = .str y ∧ Q z H') E
theorem strBack {Q : VK} {pins : List (Addr × Obj)} {σ : L2.St} {w : Value} {s' : Shared} (h : EP X pins σ (fun z H' => ∃ y, z = .str y ∧ Q z H') w s') : PySem.W.StrBack (EP X pins σ Q) w s' := by
  obtain ⟨z', H', I', rz, y, ey, qz⟩ := h
  subst ey
  obtain ⟨t, e⟩ := (show ∃ t, w = Value.str y t from rz)
  cases e
  exact ⟨.str y, H', I', ⟨t, rfl⟩, qz⟩
theorem call_strOwn (m : Meth X.K C "__str__" g) (F : FnR X.prog X.w X.K X.mg X.base CX n g sp) (hr : Room (n + 2) X.A) (hx : Passes CX X E) : CallR X (.type "str") (rStrOwn C sp E) := by
  intro pins s σ H xs us Q I r h
  obtain ⟨a, dx, vs, rfl, hsl, q⟩ := h
  obtain ⟨u, rfl, ru⟩ := r.one
  cases (show u = Value.ref a from ru)
  obtain ⟨sl, od, _, J, _⟩ := slt_inst I hsl
  have hr2 : Room n X.A.in1.in1 := (show Room (n + 1) X.A.in1 from Room.in1 hr).in1
  exact PySem.W.kso_call hr2.units0 I.kIn J m.at_ m.fn (wpAny_mono (wpAny_call (run_at (us := [.ref a]) (ws := [.ref a]) F hr2 I.env0.in1.in1 hx I (.cons rfl .nil) q)) (fun w s' z => strBack z) fun _ _ x => x)
/-- {x}, x an instance -/
def tFmtOwn (C : Addr) (sp : Sp) (E : XK) (te : TE) : TE := fun σ H Q => te σ H fun x H1 => ∃ a dx vs, x = V.ref a ∧ Slt H1 a C dx vs ∧ sp [.ref a] H1 (fun z H' => ∃ y, z = .str y ∧ Q z H') E
theorem pe_fmtOwn {e : Expr} {te : TE} {pos : Pos} (he : PE X e te) (hfm : PySem.W.findIn X.K (.ref C) "__format__" = some (some (.builtin "object.__format__"))) (hm : PySem.W.mroIn X.K C (.type "object") = some true) (m : Meth X.K C "__str__" g) (F : FnR X.prog X.w X.K X.mg X.base CX n g sp) (hr : Room (n + 1) X.A) (hx : Passes CX X E) : PE X (.FormattedValue e (-1) none pos) (tFmtOwn C sp E te) := by
  refine ⟨fun pins s σ H Q I h => ?_⟩
  refine wpAny_FormattedValue_plain (thn (he.run pins s σ H _ I h) fun v s1 hv => ?_)
  obtain ⟨x, H1, I1, r1, a, dx, vs, ex, hsl, q⟩ := hv
  subst ex
  cases (show v = Value.ref a from r1)
  have I2 := I1.tok (s1.toks + 1)
  obtain ⟨sl, od, _, J, _⟩ := slt_inst I1 hsl
  have hr2 : Room n X.A.in1 := Room.in1 hr
  exact PySem.W.kfo_fieldS hr2.units0 I1.kIn J hfm hm m.at_ m.fn (wpAny_mono (wpAny_call (run_at (us := [.ref a]) (ws := [.ref a]) F hr2 I2.env0.in1 hx I2 (.cons rfl .nil) q)) (fun w s' z => strBack z) fun _ _ x => x)
/-- x != y by an own __eq__ -/
def rNeOwn (K : PySem.W.Frag) (C : Addr) (sp : Sp) (E : XK) : R2 := fun x y H Q => ∃ a dx vs b C' dy ws, x = .ref a ∧ y = .ref b ∧ Slt H a C dx vs ∧ Slt H b C' dy ws ∧ PySem.W.notFirst K C (.ref C') = true ∧ sp [x, y] H (fun z H' => ∃ c, z = .bl c ∧ Q (.bl (!c)) H') E
theorem op_neOwn (hne : PySem.W.findIn X.K (.ref C) "__ne__" = some (some (.builtin "object.__ne__"))) (hm : PySem.W.mroIn X.K C (.type "object") = some true) (m : Meth X.K C "__eq__" g) (F : FnR X.prog X.w X.K X.mg X.base CX n g sp)
    (hr : Room (n + 1) X.A) (hx : Passes CX X E) : OpR X (compareOp .NotEq) (rNeOwn X.K C sp E) := by
  intro pins s σ H x y v u Q I rx ry h
  obtain ⟨a, dx, vs, b, C', dy, ws, rfl, rfl, ha, hb, hn, q⟩ := h
  cases (show v = Value.ref a from rx)
  cases (show u = Value.ref b from ry)
  obtain ⟨sl, od, _, J, _⟩ := slt_inst I ha
  obtain ⟨sl', od', _, J', _⟩ := slt_inst I hb
  have hr2 : Room n X.A.in1 := Room.in1 hr
  show wpAny _ _ (richCompare .NotEq (.ref a) (.ref b)) _ _ _
  refine ne_own hr2.units0 hr.units0 I.kIn J J'.type hn hne hm m.at_ m.fn (wpAny_mono (wpAny_call (run_at (us := [.ref a, .ref b]) (ws := [.ref a, .ref b]) F hr2 I.env0.in1 hx I (.cons rfl (.cons rfl .nil)) q)) (fun w s' z => ?_) fun _ _ x => x)
  obtain ⟨z', H', I', rz, c, ec, qz⟩ := z
  subst ec
  cases (show w = Value.bool c from rz)
  exact ⟨c, rfl, .bl (!c), H', I', rfl, qz⟩
end
section
variable {X : Cx} {CX : CXT} {k i : Nat} {f C p g : Addr} {fd : FuncData} {ps : List Str} {sp : Sp} {dvs : List V} {ds : List Value} {E : XK} {x m : Str} {pp pos apos : Pos} {e o : Expr} {es : List Expr} {t : TA} {ta : TE} {mc : Value} {pl : Sem Bool}
/-- x(e, ..), the i-th slot holds the class at C -/
def tMakeL (i : Nat) (C : Addr) (sp : Sp) (dvs : List V) (E : XK) (t : TA) : TE := fun σ H Q => σ[i]? = some (some (.ref C)) ∧ tMake C sp dvs E t σ H Q
theorem pe_makeL (M : Mk X.K C f) (F : FnOk X.prog X.w X.K X.mg X.base CX k f fd ps sp) (hr : Room (k + 1) X.A) (hN : X.N[i]? = some x) (hv : Vis X.env.scope x) (hb : Binds X.K fd ps ds) (hd : Vals dvs ds) (hx : Passes CX X E) (ha : PA X (e :: es) t)
    (hdb : (x == ("__debug__" : Str)) = false := by decide) (hcd : (x == ("__classdict__" : Str)) = false := by decide)
    (he : starEach (e :: es) X.env = (false, eval e X.env) :: starEach es X.env := by rfl) (hpl : (backTo pos (starEach es X.env)).any (·.1) = false := by rfl) : PE X (.Call (.Name x pp) (e :: es) [] pos) (tMakeL i C sp dvs E t) := by
  refine ⟨fun pins s σ H Q I h => ?_⟩
  obtain ⟨hs, ht⟩ := h
  refine wpAny_Call_Name_kw (thn ((pe_var (pos := pp) hN hv hdb hcd).run pins s σ H (fun v H1 => v = .ref C ∧ H1 = H) I ⟨.ref C, hs, rfl, rfl⟩) fun u s1 ⟨v, H1, I1, r1, q1⟩ => ?_)
  obtain ⟨rfl, rfl⟩ := q1
  cases (show u = Value.ref C from r1)
  refine PySem.W.callWith_K (h₀ := X.base) I.ok.mod.kin M.kp (thn (ha.run pos pins s1 σ _ _ I1 ht) fun us s2 ⟨vs, H2, I2, r, q⟩ => ⟨I2.kIn, ?_⟩) he hpl
  exact run_make M F hr hb hd hx I2 r q
theorem pe_cmeth0 (he : PE X o ta) (r : ClX.CRead X.K C mc) (c : ClX.CMet X.K C mc m p g) (F : FnR X.prog X.w X.K X.mg X.base CX k g sp) (hr : Room k X.A) (hx : Passes CX X E)
    (ht : eval (.Call (.Attribute o m apos) [] [] pos) X.env = (do
      let ov ← eval o X.env
      standAt apos.atName
      let (f, first) ← holding [ov] (getMethod ov m pl)
      callWith pos f first (backTo pos (starEach [] X.env)) (backToKw pos (keywordEach [] X.env))) := by rfl) :
    PE X (.Call (.Attribute o m apos) [] [] pos) (ClX.tCMeth C sp E ta tNil) := by
  refine ⟨fun pins s σ H Q I h => ?_⟩
  refine PySem.W.methodCall_KW (pl := pl) (thn (he.run pins s σ H _ I h) fun u s1 ⟨x, H1, I1, rx, ex, q⟩ => ?_) ht
  subst ex
  cases (show u = Value.ref C from rx)
  refine ClX.getmethcm_ok I1 r c fun s2 I2 => ?_
  exact PySem.W.callWith_M0 ⟨ClX.pin_at I2, I2.kIn⟩ c.fi (ClX.run_cm (us := []) F hr hx I2 .nil q)
end

/-! ### texts of ratios (plain) -/
/-- the text of a ratio in lowest terms -/
def RatT (t : Str) (p q : Int) : Prop := 1 ≤ q ∧ Int.gcd p q = 1 ∧ t = ratText p q
theorem toS_slash (p : Int) : 47 ∉ TL.tl (toS p) := by
  rcases int_two p with ⟨k, rfl⟩ | ⟨k, rfl⟩
  · rw [tl_toS_nat]
    exact TL.numL_free (by decide)
  · rw [tl_toS_neg]
    intro h
    rcases List.mem_cons.mp h with h | h
    · exact absurd h (by decide)
    · exact TL.numL_free (by decide) h
theorem tl_slash : TL.tl ("/" : Str) = [47] := by decide +kernel
theorem mk_of_tl {l : List Nat} {x : Str} (h : TL.tl x = l) : (⟨l.toArray⟩ : Str) = x := by subst h; exact TL.mk_tl x
/-- what partition makes of a text without / -/
theorem part_none {t : Str} (h : 47 ∉ TL.tl t) : Txt.partition t "/" = (t, Str.empty, Str.empty) := by
  rw [TL.partition_par t "/" (by rw [tl_slash]; decide), tl_slash, TL.par_none1 h]
theorem part_some {a b : Str} (h : 47 ∉ TL.tl a) : Txt.partition (a ++ ("/" ++ b)) "/" = (a, ("/" : Str), b) := by
  rw [TL.partition_par _ "/" (by rw [tl_slash]; decide), TL.tl_append, TL.tl_append, tl_slash, TL.par_part1 h]
  show (_, _, _) = _
  rw [List.nil_append, mk_of_tl (x := a) rfl, mk_of_tl (x := b) rfl]
theorem part_rat {t : Str} {p q : Int} (h : RatT t p q) : Txt.partition t "/" = if q = 1 then (toS p, Str.empty, Str.empty) else (toS p, ("/" : Str), toS q) := by
  rw [h.2.2]
  unfold ratText
  split
  · exact part_none (toS_slash p)
  · exact part_some (toS_slash p)
theorem rat_inj {t : Str} {p q p' q' : Int} (h : RatT t p q) (h' : RatT t p' q') : p = p' ∧ q = q' := by
  have e := (part_rat h).symm.trans (part_rat h')
  by_cases h1 : q = 1
  · by_cases h2 : q' = 1
    · rw [if_pos h1, if_pos h2] at e
      exact ⟨toS_inj (Prod.mk.inj e).1, by rw [h1, h2]⟩
    · rw [if_pos h1, if_neg h2] at e
      have := congrArg Str.length (Prod.mk.inj (Prod.mk.inj e).2).1
      exact absurd this (by decide)
  · by_cases h2 : q' = 1
    · rw [if_neg h1, if_pos h2] at e
      have := congrArg Str.length (Prod.mk.inj (Prod.mk.inj e).2).1
      exact absurd this (by decide)
    · rw [if_neg h1, if_neg h2] at e
      exact ⟨toS_inj (Prod.mk.inj e).1, toS_inj (Prod.mk.inj (Prod.mk.inj e).2).2⟩
/-- the ratio with a text -/
noncomputable def ratOf (t : Str) : Option (Int × Int) := open Classical in if h : ∃ z : Int × Int, RatT t z.1 z.2 then some (Classical.choose h) else none
theorem ratOf_some {t : Str} {p q : Int} (h : RatT t p q) : ratOf t = some (p, q) := by
  unfold ratOf
  have hx : ∃ z : Int × Int, RatT t z.1 z.2 := ⟨(p, q), h⟩
  rw [dif_pos hx]
  have e := rat_inj (Classical.choose_spec hx) h
  congr 1
  exact Prod.ext e.1 e.2
theorem ratOf_none {t : Str} (h : ∀ p q, ¬ RatT t p q) : ratOf t = none := by
  unfold ratOf
  rw [dif_neg fun ⟨z, hz⟩ => h _ _ hz]
theorem ratOf_is {t : Str} {p q : Int} (h : ratOf t = some (p, q)) : RatT t p q := by
  unfold ratOf at h
  split at h
  · rename_i hx
    have e := Option.some.inj h
    have s := Classical.choose_spec hx
    rw [e] at s
    exact s
  · cases h
/-- the two numbers that a text of a ratio tells, not brought to lowest terms -/
theorem rat_low {p q : Int} (hq : 1 ≤ q) : 1 ≤ q / (Int.gcd p q : Int) ∧ Int.gcd (p / (Int.gcd p q : Int)) (q / (Int.gcd p q : Int)) = 1 := by
  have h0 : Int.gcd p q ≠ 0 := fun e => by
    have := (Int.gcd_eq_zero_iff.mp e).2
    omega
  refine ⟨?_, Int.gcd_ediv_gcd_ediv_gcd (by omega)⟩
  have := Int.ediv_pos_of_pos_of_dvd (a := q) (b := (Int.gcd p q : Int)) (by omega) (by omega) (Int.gcd_dvd_right ..)
  omega
theorem ratText_toS {p q : Int} (h : (ratText p q).length ≤ 60) : (toS p).length ≤ 60 ∧ (q = 1 ∨ (toS q).length ≤ 60) := by
  unfold ratText at h
  split at h
  · rename_i h1
    exact ⟨h, .inl h1⟩
  · rw [len_app, len_app] at h
    exact ⟨by omega, .inr (by omega)⟩
theorem par_len (S : List Nat) : ∀ (l acc a b : List Nat), TL.par S acc l = some (a, b) → a.length + b.length ≤ acc.length + l.length := by
  intro l
  induction l with
  | nil => intro acc a b h; cases h
  | cons c r ih =>
    intro acc a b h
    unfold TL.par at h
    split at h
    · cases h
      rw [List.length_drop]
      omega
    · have := ih _ _ _ h
      rw [List.length_append] at this
      simp only [List.length_cons, List.length_nil] at *
      omega
theorem part_le (t : Str) : (Txt.partition t "/").1.length ≤ t.length ∧ (Txt.partition t "/").2.2.length ≤ t.length := by
  rw [TL.partition_par t "/" (by rw [tl_slash]; decide)]
  cases h : TL.par (TL.tl ("/" : Str)) [] (TL.tl t) with
  | none =>
    refine ⟨Nat.le_refl _, ?_⟩
    show Str.empty.length ≤ _
    exact Nat.zero_le _
  | some z =>
    obtain ⟨a, b⟩ := z
    have h1 := par_len _ _ _ _ _ h
    rw [tl_len t]
    show (⟨a.toArray⟩ : Str).length ≤ _ ∧ (⟨b.toArray⟩ : Str).length ≤ _
    rw [tl_len, tl_len, TL.tl_mk, TL.tl_mk]
    simp only [List.length_nil] at h1
    exact ⟨by show a.length ≤ (TL.tl t).length; omega, by show b.length ≤ (TL.tl t).length; omega⟩
theorem part_le1 (t : Str) : (Txt.partition t "/").1.length ≤ t.length := (part_le t).1
theorem part_le2 (t : Str) : (Txt.partition t "/").2.2.length ≤ t.length := (part_le t).2

/-! ### raising -/
def tRaiseE (c : Value) (E : XK) : TS := fun _ _ H => E c none H
theorem ps_raiseOwn {X : Cx} {E : XK} {C : Addr} {x m : Str} {j : Nat} {p p2 pos pos2 : Pos} (q : PySem.W.excIn X.K C [.type "ValueError", .type "Exception", .type "BaseException", .type "object"] "ValueError.__new__" = true) (g : X.mg x = some (.ref C)) (k : PySem.W.keepIn X.K (.ref C) = true) (sb : PySem.W.subIn X.K (.ref C) (.type "BaseException") = some true) (ty : PySem.W.typeIn X.K (.ref C) = some (.type "type"))
    (tk : Takes X (fun cls d _ H => E cls d H)) (hc : X.calm = true := by rfl) (hg : Gl X x := by rfl) (hd : (x == ("__debug__" : Str)) = false := by decide) :
    PS X (.Raise (some (.Call (.Name x p) [.Constant (.str m) j p2] [] pos)) none pos2) (tRaiseE (.ref C) E) :=
  ps_raise hc tk (pmk_own PySem.F.excBase_ValueError q g k (raises_own sb ty) hg hd)
/-! ### calls that make something -/
section
variable {K : PySem.W.Frag} {σ : L2.St} {H H' : Hp} {te ta : TE} {P : V → Hp → Prop} {D : Ends} {tz : TS}
theorem q_asgQ {i : Nat} (h : EvQ te σ H P) (k : ∀ v H1, Ex H H1 → P v H1 → tz D (σ.set i (some v)) H1) : tSeq (tAsg te (gName i)) tz D σ H := h H (Ex.refl H) _ fun v H1 e1 p => k v H1 e1 p
theorem s_retQ (h : EvQ te σ H P) (k : ∀ v H1, Ex H H1 → P v H1 → D.rt v H1) : tRet te D σ H := h H (Ex.refl H) _ fun v H1 e1 p => k v H1 e1 p
/-- a, b, c = a new tuple -/
theorem q_asg3 {i1 i2 i3 : Nat} {x y z : V} (h : EvU te σ H [x, y, z]) (k : ∀ H1, Ex H H1 → tz D (((σ.set i1 (some x)).set i2 (some y)).set i3 (some z)) H1) : tSeq (tAsg te (gTup K 3 (gCons (gName i1) (gCons (gName i2) (gCons (gName i3) gNil))))) tz D σ H :=
  h H (Ex.refl H) _ fun p H1 hp e1 hx => ⟨p, _, rfl, SqT.of hx, rfl, _, _, rfl, _, _, rfl, _, _, rfl, rfl, k H1 e1⟩
end

end K08

namespace K08
open PySem PySem.Spec PyProof.Rows L2 Evl
/-! ### Ratio.of_text -/
def t_Ratio_of_text (K : PySem.W.Frag) {mg : Str → Option Value} (T : Txt K mg) (E : XK) : TS :=
  (tSeq (tIfS (tNot (tB (tCB (rIsi K) (tCons (tVar 1) (tCons (tC (.ty "str")) tNil))))) tNever tNext)
    (tSeq (tAsg (tM1 rPart (tVar 1) (tC (.str "/"))) (gTup K 3 (gCons (gName 2) (gCons (gName 3) (gCons (gName 4) gNil)))))
    (tSeq (tPar 5 6 (tCons (tCl sp_integer_in (tCons (tVar 2) tNil)) (tCons (tIf (tTest (tOp rNe (tVar 3) (tC (.str "")))) (tCl sp_integer_in (tCons (tVar 4) tNil)) (tC (.int 1))) tNil)))
    (tSeq (tIfS (tOr (tTest (tOp rIsNn (tVar 5) (tC .non))) (tOr (tTest (tOp rIsNn (tVar 6) (tC .non))) (tTest (tOp rLtI (tVar 6) (tC (.int 1)))))) (tRaiseE (.ref T.InvalidRatio.C) E) tNext)
    (tSeq (tAsg (tMakeL 0 T.Ratio.C (sp_Ratio_init T.Ratio.C) [.bl false] E0 (tCons (tVar 5) (tCons (tVar 6) tNil))) (gName 7))
    (tSeq (tIfS (tTest (tOp rNe (tCB (rStrOwn T.Ratio.C (sp_Ratio_str T.Ratio.C) E0) (tCons (tVar 7) tNil)) (tVar 1))) (tRaiseE (.ref T.InvalidRatio.C) E) tNext)
    (tRet (tVar 7))))))))
def sp_Ratio_of_text {K : PySem.W.Frag} {mg : Str → Option Value} (T : Txt K mg) : Sp := fun vs H Q E => ∃ t : Str, vs = [.ref T.Ratio.C, .str t] ∧ t.length ≤ 60 ∧ (∀ p q, RatT t p q → ∀ a H', Ex H H' → RatA T.Ratio.C H' a p q → Q (.ref a) H') ∧ ((∀ p q, ¬ RatT t p q) → ∀ H', Ex H H' → E (.ref T.InvalidRatio.C) none H')
theorem len_Ratio_of_text {K : PySem.W.Frag} {mg : Str → Option Value} {T : Txt K mg} : ∀ vs H Q E, sp_Ratio_of_text T vs H Q E → vs.length = 2 := fun vs H Q E ⟨_, e, _⟩ => by rw [e]; rfl
theorem spv_integer_in {H : Hp} {t : Str} (h : t.length ≤ 60) : SpV sp_integer_in [.str t] H (optI (intOf t)) := fun H1 _ Q q E => ⟨t, rfl, h, q⟩
theorem toS_60 {p : Int} (h : (toS p).length ≤ 60) : isInt60 p = true := by
  have h1 := toS_abs h
  have e : (10 : Int) ^ 60 = ((10 ^ 60 : Nat) : Int) := by decide
  unfold isInt60
  rw [e]
  exact decide_eq_true (by omega)
theorem okInt_of60 {p : Int} (h : isInt60 p = true) : okInt p := by
  have h1 := of_decide_eq_true h
  have e : (10 : Int) ^ 60 = ((10 ^ 60 : Nat) : Int) := by decide
  rw [e] at h1
  have h2 : (10 : Nat) ^ 60 ≤ 10 ^ 120 := by decide
  unfold okInt
  omega
theorem okInt_div {p g : Int} (h : okInt p) : okInt (p / g) := Nat.lt_of_le_of_lt (Int.natAbs_ediv_le_natAbs p g) h
theorem eq_makeRat {K : PySem.W.Frag} {mg : Str → Option Value} (T : Txt K mg) {σ : L2.St} {H : Hp} {ta : TA} {p q : Int} (ha : EvA ta σ H [.int p, .int q]) (hp : isInt60 p = true) (hq : isInt60 q = true) (h1 : 1 ≤ q) :
    EvQ (tMake T.Ratio.C (sp_Ratio_init T.Ratio.C) [.bl false] E0 ta) σ H (fun v H' => ∃ a, v = .ref a ∧ RatA T.Ratio.C H' a (p / (Int.gcd p q : Int)) (q / (Int.gcd p q : Int))) := fun H1 e Q k =>
  ha H1 e _ fun H2 e2 => fun x dx nx nd hne => ⟨x, dx, p, q, H2, rfl, upd_same, hne, ((Ex.refl H2).mut nd).mut nx, nx, nd, hp, hq, h1, fun H' e' hr => ⟨rfl, k _ H' (e2.trans e') ⟨x, rfl, hr⟩⟩⟩
theorem ev_strRat {K : PySem.W.Frag} {mg : Str → Option Value} (T : Txt K mg) {σ : L2.St} {H : Hp} {ta : TE} {a : Addr} {p q : Int} (ha : Ev ta σ H (.ref a)) (h : RatA T.Ratio.C H a p q) (hp : okInt p) (hq : okInt q) : Ev (tCB (rStrOwn T.Ratio.C (sp_Ratio_str T.Ratio.C) E0) (tCons ta tNil)) σ H (.str (ratText p q)) := fun H1 e Q k =>
  ha H1 e _ fun H2 e2 => by
    obtain ⟨dx, hs⟩ := rat_ex (e.trans e2) h
    exact ⟨a, dx, _, rfl, hs, a, p, q, rfl, ⟨dx, hs⟩, hp, hq, fun H' e' => ⟨_, rfl, k H' (e2.trans e')⟩⟩
theorem optI_non {o : Option Int} : decide (optI o = V.non) = o.isNone := by cases o <;> rfl
theorem pure_Ratio_of_text {K : PySem.W.Frag} {mg : Str → Option Value} (T : Txt K mg) {vs : List V} {H : Hp} {Q : VK} {E : XK} (h : sp_Ratio_of_text T vs H Q E) : t_Ratio_of_text K T E { nx := fun _ H' => Q .non H', rt := Q } (start ["cls", "text", "left", "slash", "right", "top", "bottom", "found"] vs) H := by
  obtain ⟨t, rfl, hz, kq, kE⟩ := h
  refine q_when (b := false) (et_not (et_B (ev_isi (ev_var rfl) ev_c (.ty _) (fun _ _ => .base (.str t)) (kit_ty (r := true) (by decide +kernel))))) (fun hb => by cases hb) fun _ H1 e1 => ?_
  refine q_asg3 (eu_part (ev_var rfl) ev_c rfl (by omega)) fun H2 e2 => ?_
  have hl : (Txt.partition t "/").1.length ≤ 60 := Nat.le_trans (part_le1 t) hz
  have hr : (Txt.partition t "/").2.2.length ≤ 60 := Nat.le_trans (part_le2 t) hz
  refine q_par (x := optI (intOf (Txt.partition t "/").1)) (y := optI (if (Txt.partition t "/").2.1 = ("" : Str) then some 1 else intOf (Txt.partition t "/").2.2)) (ev_cl (ea_cons (ev_var rfl) ea_nil) (spv_integer_in hl))
    (ev_if (et_is (et_test (ev_op (ev_var rfl) ev_c (rv_ne rfl))) (congrArg (!·) str_eq_bl)) (fun hb => ?_) (fun hb => ?_)) fun H3 e3 => ?_
  · have hb' : (Txt.partition t "/").2.1 ≠ ("" : Str) := by simpa using hb
    rw [if_neg hb']
    exact ev_cl (ea_cons (ev_var rfl) ea_nil) (spv_integer_in hr)
  · have hb' : (Txt.partition t "/").2.1 = ("" : Str) := by simpa using hb
    rw [if_pos hb']
    exact ev_c
  have e13 := (e1.trans e2).trans e3
  have bad : ∀ {H4 : Hp}, Ex H H4 → (∀ p q, RatT t p q → False) → E (.ref T.InvalidRatio.C) none H4 := fun e4 hn => kE hn _ e4
  generalize ho : intOf (Txt.partition t "/").1 = o at *
  generalize hu : (if (Txt.partition t "/").2.1 = ("" : Str) then some 1 else intOf (Txt.partition t "/").2.2) = u at *
  have full : ∀ p q, RatT t p q → o = some p ∧ u = some q := by
    intro p q hp
    rw [part_rat hp] at ho hu
    by_cases h1 : q = 1
    · rw [if_pos h1] at ho hu
      rw [if_pos (show Str.empty = ("" : Str) by decide)] at hu
      exact ⟨by rw [← ho]; exact intOf_toS p, by rw [← hu, h1]⟩
    · rw [if_neg h1] at ho hu
      rw [if_neg (show ¬ (("/" : Str) = ("" : Str)) by decide)] at hu
      exact ⟨by rw [← ho]; exact intOf_toS p, by rw [← hu]; exact intOf_toS q⟩
  refine q_when (b := o.isNone || (u.isNone || u.any fun q => decide (q < 1))) (et_or (et_is (et_test (ev_op (ev_var rfl) ev_c rv_isNn)) optI_non) fun _ => et_or (et_is (et_test (ev_op (ev_var rfl) ev_c rv_isNn)) optI_non) fun hb => ?_) (fun hb H4 e4 => ?_) fun hb H4 e4 => ?_
  · cases u with
    | none => cases hb
    | some q => exact et_test (ev_op (ev_var rfl) ev_c rv_I0)
  · refine bad (e13.trans e4) fun p q hp => ?_
    obtain ⟨rfl, rfl⟩ := full p q hp
    have := hp.1
    simp at hb
    omega
  cases o with
  | none => cases hb
  | some p =>
  cases u with
  | none => cases hb
  | some q =>
  have hq1 : 1 ≤ q := by
    simp at hb
    omega
  have hp60 : isInt60 p = true := toS_60 (by rw [← intOf_some ho]; exact hl)
  have hq60 : isInt60 q = true := by
    split at hu
    · cases hu; decide
    · exact toS_60 (by rw [← intOf_some hu]; exact hr)
  refine q_asgQ (P := fun v H' => ∃ a, v = .ref a ∧ RatA T.Ratio.C H' a (p / (Int.gcd p q : Int)) (q / (Int.gcd p q : Int))) (fun H5 e5 Q' k' => ⟨rfl, eq_makeRat T (ea_cons (ev_var rfl) (ea_cons (ev_var rfl) ea_nil)) hp60 hq60 hq1 H5 e5 Q' k'⟩) fun v H5 e5 hv => ?_
  obtain ⟨a, rfl, ha⟩ := hv
  have op := okInt_div (g := (Int.gcd p q : Int)) (okInt_of60 hp60)
  have oq := okInt_div (g := (Int.gcd p q : Int)) (okInt_of60 hq60)
  have e15 := (e13.trans e4).trans e5
  refine q_when (et_is (et_test (ev_op (ev_strRat T (ev_var rfl) ha op oq) (ev_var rfl) (rv_ne rfl))) (congrArg (!·) str_eq_bl)) (fun hb H6 e6 => ?_) fun hb H6 e6 => ?_
  · refine bad (e15.trans e6) fun p' q' hp => ?_
    obtain ⟨e1', e2'⟩ := full p' q' hp
    cases e1'
    cases e2'
    have hg : ((Int.gcd p q : Nat) : Int) = 1 := by rw [hp.2.1]; rfl
    have hne : ratText (p / (Int.gcd p q : Int)) (q / (Int.gcd p q : Int)) ≠ t := by simpa using hb
    rw [hg, Int.ediv_one, Int.ediv_one] at hne
    exact hne hp.2.2.symm
  · refine s_ret (ev_var rfl) fun H7 e7 => ?_
    have he : ratText (p / (Int.gcd p q : Int)) (q / (Int.gcd p q : Int)) = t := by simpa using hb
    have hlow := rat_low (p := p) hq1
    exact kq _ _ ⟨hlow.1, hlow.2, he.symm⟩ a H7 ((e15.trans e6).trans e7) (rat_ex (e6.trans e7) ha)
theorem sc_Ratio_of_text : FnScope ["cls", "text", "left", "slash", "right", "top", "bottom", "found"] ["cls", "text"] (defScope s_Ratio_of_text) := ⟨rfl, rfl, rfl, by decide +kernel, rfl, by decide +kernel, by decide +kernel⟩
theorem d_Ratio_of_text {P : Program} {w : World} {K : PySem.W.Frag} {mg : Str → Option Value} {base : Heap} (T : Txt K mg) {f : Addr} {cdv : Value} {A : Around} {outer : List Env} {s : Shared} {H : Hp} {E : XK} (hr : Room 3 (A.deeper (envOfC "Ratio.of_text" (defScope s_Ratio_of_text) s.heap.objs.size f cdv))) :
    PSs (cxOf (L2.CX P w) P w K mg base ["cls", "text", "left", "slash", "right", "top", "bottom", "found"] "Ratio.of_text" (defScope s_Ratio_of_text) f cdv A outer s H E) (defBody s_Ratio_of_text) (t_Ratio_of_text K T E) := by
  have hu := hu_of hr
  obtain ⟨ds, hds, hbs⟩ := b_Ratio_init T
  exact (pss_cons (ps_if (pt_not (pt_val (pe_callB call_isi (by rfl) T.b_isinstance (by decide +kernel) (pa_cons (pv 1) (pa_cons (pe_ty T.b_str) pa_nil))))) (pss_one ps_never) pss_nil)
      (pss_cons (ps_asg (pe_partition (pv 1) pe_str) (pg_tup rfl (pgs_cons (pg_name (i := 2) sc_Ratio_of_text.nd rfl (Or.inl rfl)) (pgs_cons (pg_name (i := 3) sc_Ratio_of_text.nd rfl (Or.inl rfl)) (pgs_cons (pg_name (i := 4) sc_Ratio_of_text.nd rfl (Or.inl rfl)) pgs_nil)))))
      (pss_cons (ps_par (i := 5) (j := 6) (by rfl) sc_Ratio_of_text.nd rfl rfl (by decide) rfl rfl (pa_cons (pe_cl (cl_integer_in T) hr (pa_cons (pv 2) pa_nil)) (pa_cons (pe_ifExp (pt_cmpR op_ne (pv 3) pe_str (nomark _)) (pe_cl (cl_integer_in T) hr (pa_cons (pv 4) pa_nil)) pe_int) pa_nil)) (by rfl))
      (pss_cons (ps_if (PW.pt (pw_or (pt_cmpR op_isN (pv 5) pe_non (nomark _)) (pw_or (pt_cmpR op_isN (pv 6) pe_non (nomark _)) (pw_or1 (pt_cmpR op_lt (pv 6) pe_int (nomark _)))))) (pss_one (ps_raiseOwn T.InvalidRatio.ex T.InvalidRatio.g T.InvalidRatio.kc T.InvalidRatio.sb T.InvalidRatio.ty (takes_of rfl rfl rfl rfl))) pss_nil)
      (pss_cons (ps_asg (pe_makeL ⟨T.Ratio.mks, T.Ratio_init.m.at_, T.Ratio_init.m.fn, T.Ratio.kc⟩ (ok_Ratio_init T) (hr.mono (by decide)) (by rfl) (Or.inl rfl) hbs hds pass0 (pa_cons (pv 5) (pa_cons (pv 6) pa_nil))) (pg_name (i := 7) sc_Ratio_of_text.nd rfl (Or.inl rfl)))
      (pss_cons (ps_if (pt_cmpR op_ne (pe_callTy (call_strOwn T.Ratio_str.m (r_Ratio_str T) (hr.mono (by decide)) pass0) (by rfl) T.b_str (by decide +kernel) (pa_cons (pv 7) pa_nil)) (pv 1) (nomark _)) (pss_one (ps_raiseOwn T.InvalidRatio.ex T.InvalidRatio.g T.InvalidRatio.kc T.InvalidRatio.sb T.InvalidRatio.ty (takes_of rfl rfl rfl rfl))) pss_nil)
      (pss_one (ps_ret (pv 7)))))))))
theorem ok_Ratio_of_text {P : Program} {w : World} {K : PySem.W.Frag} {mg : Str → Option Value} {base : Heap} (T : Txt K mg) : FnOk P w K mg base (L2.CX P w) 4 T.Ratio_of_text.f T.Ratio_of_text.fd ["cls", "text"] (sp_Ratio_of_text T) :=
  T.Ratio_of_text.F.ok sc_Ratio_of_text len_Ratio_of_text fun cdv A outer s H vs Q E hr h => ⟨t_Ratio_of_text K T E, d_Ratio_of_text T hr, pure_Ratio_of_text T h⟩
theorem r_Ratio_of_text {P : Program} {w : World} {K : PySem.W.Frag} {mg : Str → Option Value} {base : Heap} (T : Txt K mg) : FnR P w K mg base (L2.CX P w) 4 T.Ratio_of_text.f (sp_Ratio_of_text T) := fnr_of (ok_Ratio_of_text T) (T.Ratio_of_text.F.bindsN fun _ _ _ _ _ _ us hl => match us, hl with | [_, _], _ => rfl)

end K08

namespace K08
open PySem PySem.Spec PyProof.Rows L2 Evl
/-! ### ratio_in -/
def tbR {K : PySem.W.Frag} {mg : Str → Option Value} (T : Txt K mg) : WX → TS := fun W => tRet (ClX.tCMeth T.Ratio.C (sp_Ratio_of_text T) (fun cls d H => ∀ σ, W cls d σ H) (tC (.ref T.Ratio.C)) (tCons (tVar 0) tNil))
theorem s_retCM {C : Addr} {sp : Sp} {E : XK} {ta : TA} {σ : L2.St} {H : Hp} {vs : List V} {D : Ends} (h : EvA ta σ H vs) (k : ∀ H1, Ex H H1 → sp (.ref C :: vs) H1 D.rt E) : tRet (ClX.tCMeth C sp E (tC (.ref C)) ta) D σ H := ⟨rfl, h H (Ex.refl H) _ k⟩
def t_ratio_in (K : PySem.W.Frag) {mg : Str → Option Value} (T : Txt K mg) : TS :=
  (fun D σ H => tbR T (wOnly K (.ref T.InvalidRatio.C) (fun _ _ _ => tRet (tC .non)) (fun _ _ _ _ => False) D) D σ H)
def sp_ratio_in {K : PySem.W.Frag} {mg : Str → Option Value} (T : Txt K mg) : Sp := fun vs H Q _ => ∃ t : Str, vs = [.str t] ∧ t.length ≤ 60 ∧ (∀ p q, RatT t p q → ∀ a H', Ex H H' → RatA T.Ratio.C H' a p q → Q (.ref a) H') ∧ ((∀ p q, ¬ RatT t p q) → ∀ H', Ex H H' → Q .non H')
theorem len_ratio_in {K : PySem.W.Frag} {mg : Str → Option Value} {T : Txt K mg} : ∀ vs H Q E, sp_ratio_in T vs H Q E → vs.length = 1 := fun vs H Q E ⟨_, e, _⟩ => by rw [e]; rfl
theorem pure_ratio_in {K : PySem.W.Frag} {mg : Str → Option Value} (T : Txt K mg) {vs : List V} {H : Hp} {Q : VK} {E : XK} (h : sp_ratio_in T vs H Q E) : t_ratio_in K T { nx := fun _ H' => Q .non H', rt := Q } (start ["word"] vs) H := by
  obtain ⟨t, rfl, hz, kq, kn⟩ := h
  unfold t_ratio_in tbR
  refine s_retCM (ea_cons (ev_var rfl) ea_nil) fun H2 e2 => ⟨t, rfl, hz, fun p q hp a H' e' => kq p q hp a H' (e2.trans e'), fun hn H' e' σ => ⟨true, T.exRR, fun _ a _ => ?_, fun hb => by cases hb⟩⟩
  exact s_ret ev_c fun H3 e3 => kn hn _ ((e2.trans e').trans e3)
theorem sc_ratio_in : FnScope ["word"] ["word"] (defScope s_ratio_in) := ⟨rfl, rfl, rfl, by decide +kernel, rfl, by decide +kernel, by decide +kernel⟩
theorem d_ratio_in {P : Program} {w : World} {K : PySem.W.Frag} {mg : Str → Option Value} {base : Heap} (T : Txt K mg) {f : Addr} {cdv : Value} {A : Around} {outer : List Env} {s : Shared} {H : Hp} {E : XK} (hr : Room 4 (A.deeper (envOfC "ratio_in" (defScope s_ratio_in) s.heap.objs.size f cdv))) :
    PSs (cxOf CX0 P w K mg base ["word"] "ratio_in" (defScope s_ratio_in) f cdv A outer s H E).nox (defBody s_ratio_in) (t_ratio_in K T) := by
  have hu := hu_of hr
  exact (pss_one (ps_try_only (c := .ref T.InvalidRatio.C) (tb := tbR T) (ts := fun _ _ _ => tRet (tC .non)) (Wout := fun _ _ _ _ => False) rfl rfl ⟨rfl, by decide, .inl T.InvalidRatio.g⟩ takes_none5 (fun W pn xe tk _ => pss_one (ps_ret (ClX.pe_cmeth (E := fun cls d H => ∀ σ, W cls d σ H) (pe_glob rfl T.Ratio.g rfl) T.Ratio.rd T.Ratio_of_text.c (r_Ratio_of_text T) (hr.mono (by decide)) (passes_call tk fun cls d σ H h => h σ) (pa_cons (pv 0) pa_nil)))) (fun a oe cls d pn _ _ => pss_one (ps_ret pe_non))))
theorem ok_ratio_in {P : Program} {w : World} {K : PySem.W.Frag} {mg : Str → Option Value} {base : Heap} (T : Txt K mg) : FnOk P w K mg base CX0 5 T.ratio_in.f T.ratio_in.fd ["word"] (sp_ratio_in T) :=
  ok0 T.ratio_in.F sc_ratio_in len_ratio_in fun cdv A outer s H vs Q E hr h => ⟨t_ratio_in K T, d_ratio_in T hr, pure_ratio_in T h⟩
theorem cl_ratio_in {P : Program} {w : World} {K : PySem.W.Frag} {mg : Str → Option Value} {base : Heap} (T : Txt K mg) : Cl P w K mg base 5 "ratio_in" (sp_ratio_in T) := cl_of T.ratio_in (ok_ratio_in T) fun _ _ _ _ _ _ us hl => match us, hl with | [_], _ => rfl

end K08

namespace K08
open PySem PySem.Spec PyProof.Rows L2 Evl
/-! ### dicts whose keys are texts -/
def kS (l : List (Str × V)) : List (Key × V) := l.map fun e => (Sum.inr e.1, e.2)
theorem kS_len (l : List (Str × V)) : (kS l).length = l.length := List.length_map ..
theorem valV_kS (l : List (Str × V)) (z : Str) : valV (kS l) (Sum.inr z) = l.lookup z := by
  induction l with
  | nil => rfl
  | cons e r ih =>
    by_cases h : e.1 = z
    · rw [show kS (e :: r) = (Sum.inr e.1, e.2) :: kS r from rfl, valV_pos (by rw [h]), List.lookup_cons, show (z == e.1) = true by rw [h]; exact beq_self_eq_true z]
    · rw [show kS (e :: r) = (Sum.inr e.1, e.2) :: kS r from rfl, valV_neg (fun q => h (Sum.inr.inj q)), ih, List.lookup_cons, show (z == e.1) = false from beq_false_of_ne fun q => h q.symm]
theorem putK_kS {l : List (Str × V)} {z : Str} (v : V) (h : l.lookup z = none) : putK (kS l) (Sum.inr z) v = kS (l ++ [(z, v)]) := by
  rw [putK_new v (by rw [valV_kS]; exact h)]
  unfold kS
  rw [List.map_append]
  rfl
theorem lookup_no {l : List (Str × V)} {z : Str} : l.lookup z = none ↔ z ∉ l.map (·.1) := by
  induction l with
  | nil => simp
  | cons e r ih =>
    rw [List.lookup_cons]
    by_cases h : z = e.1
    · subst h
      simp
    · rw [show (z == e.1) = false from beq_false_of_ne h]
      simp only [List.map_cons, List.mem_cons, not_or]
      exact ⟨fun q => ⟨h, ih.mp q⟩, fun q => ih.mpr q.2⟩
theorem lookup_mem {α : Type} {l : List (Str × α)} {z : Str} {v : α} (h : l.lookup z = some v) : (z, v) ∈ l := by
  induction l with
  | nil => cases h
  | cons e r ih =>
    rw [List.lookup_cons] at h
    by_cases hz : z = e.1
    · subst hz
      rw [beq_self_eq_true] at h
      cases h
      exact List.mem_cons_self
    · rw [show (z == e.1) = false from beq_false_of_ne hz] at h
      exact List.mem_cons_of_mem _ (ih h)
theorem mem_lookup {α : Type} {l : List (Str × α)} {z : Str} {v : α} (hn : (l.map (·.1)).Nodup) (h : (z, v) ∈ l) : l.lookup z = some v := by
  induction l with
  | nil => cases h
  | cons e r ih =>
    rw [List.map_cons, List.nodup_cons] at hn
    rw [List.lookup_cons]
    rcases List.mem_cons.mp h with rfl | h
    · rw [beq_self_eq_true]
    · have hz : z ≠ e.1 := fun q => hn.1 (by rw [← q]; exact List.mem_map.mpr ⟨_, h, rfl⟩)
      rw [show (z == e.1) = false from beq_false_of_ne hz]
      exact ih hn.2 h
/-- the dict at d holds l (it may be locked) -/
def DS (H : Hp) (d : Addr) (l : List (Str × V)) : Prop := Rd H d (.dK (kS l))
theorem ds_ex {H H' : Hp} {d : Addr} {l : List (Str × V)} (e : Ex H H') (h : DS H d l) : DS H' d l := ex_rd e h
theorem ds_get {H : Hp} {d : Addr} {l : List (Str × V)} (h : DS H d l) (z : Str) : DGet H d (.str z) (l.lookup z) := .inl ⟨kS l, Sum.inr z, h, rfl, (valV_kS l z).symm⟩
section
variable {K : PySem.W.Frag} {σ : L2.St} {H H' : Hp} {te td ty tv tx : TE} {d : Addr} {l : List (Str × V)} {z : Str} {v x : V} {D : Ends} {tz : TS} {wi : TI} {xs : List V}
theorem ev_din (hy : Ev ty σ H (.str z)) (hd : Ev td σ H (.ref d)) (h : DS H d l) : Ev (tDIn ty td) σ H (.bl (l.lookup z).isSome) := fun H1 e Q q =>
  hy H1 e _ fun H2 e2 => hd H2 (e.trans e2) _ fun H3 e3 => ⟨d, _, rfl, ds_get (ds_ex ((e.trans e2).trans e3) h) z, q H3 (e2.trans e3)⟩
theorem ev_dnotin (hy : Ev ty σ H (.str z)) (hd : Ev td σ H (.ref d)) (h : DS H d l) : Ev (tDNotIn ty td) σ H (.bl (!(l.lookup z).isSome)) := fun H1 e Q q =>
  hy H1 e _ fun H2 e2 => hd H2 (e.trans e2) _ fun H3 e3 => ⟨d, _, rfl, ds_get (ds_ex ((e.trans e2).trans e3) h) z, q H3 (e2.trans e3)⟩
theorem ev_dget (hd : Ev td σ H (.ref d)) (hy : Ev ty σ H (.str z)) (h : DS H d l) (hv : l.lookup z = some v) : Ev (tDGet td ty) σ H v := fun H1 e Q q =>
  hd H1 e _ fun H2 e2 => hy H2 (e.trans e2) _ fun H3 e3 => ⟨d, v, rfl, hv ▸ ds_get (ds_ex ((e.trans e2).trans e3) h) z, q H3 (e2.trans e3)⟩
theorem ev_dget2 (hd : Ev td σ H (.ref d)) (hy : Ev ty σ H (.str z)) (hx : Ev tx σ H x) (h : DS H d l) : Ev (tDGet2 td ty tx) σ H ((l.lookup z).getD x) := fun H1 e Q q =>
  hd H1 e _ fun H2 e2 => ⟨d, rfl, .inl ⟨_, ds_ex (e.trans e2) h⟩, hy H2 (e.trans e2) _ fun H3 e3 => hx H3 ((e.trans e2).trans e3) _ fun H4 e4 => ⟨_, ds_get (ds_ex (((e.trans e2).trans e3).trans e4) h) z, q H4 ((e2.trans e3).trans e4)⟩⟩
theorem ev_lenD (hd : Ev td σ H (.ref d)) (h : H d = some (.dK (kS l))) : Ev (tCB rLenD (tCons td tNil)) σ H (.int l.length) := fun H1 e Q q =>
  hd H1 e _ fun H2 e2 => ⟨d, kS l, rfl, e2 _ _ (e _ _ h), by rw [kS_len]; exact q H2 e2⟩
theorem s_dput (hd : Ev td σ H (.ref d)) (hy : Ev ty σ H (.str z)) (hv : Ev tv σ H v) (h : H d = some (.dK (kS l))) (hl : l.lookup z = none) (hz : l.length < 100000) (k : ∀ H1, Ex H H1 → D.nx σ (upd H1 d (.dK (kS (l ++ [(z, v)]))))) : sDPut td ty tv D σ H :=
  hv H (Ex.refl H) _ fun H1 e1 => hd H1 e1 _ fun H2 e2 => hy H2 (e1.trans e2) _ fun H3 e3 => by
    have e := (e1.trans e2).trans e3
    refine ⟨d, _, rfl, .inl ⟨kS l, Sum.inr z, e _ _ h, rfl, ?_, rfl⟩, ?_⟩
    · rw [kS_len]; exact sz_lt hz
    · rw [putK_kS v hl]
      exact k H3 e
theorem q_dput (hd : Ev td σ H (.ref d)) (hy : Ev ty σ H (.str z)) (hv : Ev tv σ H v) (h : H d = some (.dK (kS l))) (hl : l.lookup z = none) (hz : l.length < 100000) (k : ∀ H1, Ex H H1 → tz D σ (upd H1 d (.dK (kS (l ++ [(z, v)]))))) : tSeq (sDPut td ty tv) tz D σ H :=
  s_dput hd hy hv h hl hz k
/-! what a locked dict gives -/
theorem src_keys {o : Obj} (hd : Ev td σ H (.ref d)) (h : H d = some (.frz o (.dK (kS l)))) : Src (iKeys td) σ H (l.map fun e => .str e.1) := fun H1 e R q => hd H1 e _ fun H2 e2 => by
  refine ⟨d, o, rfl, .inl ⟨kS l, e2 _ _ (e _ _ h), q _ H2 e2 ?_⟩⟩
  have w := walk_keys (d := d) (o := o) (kvs := kS l)
  rw [kS_len] at w
  unfold WalkV
  rw [List.length_map]
  refine w.mono (fun H3 e3 => e3 _ _ (e2 _ _ (e _ _ h))) fun i H3 x H4 hi _ ⟨e1, k, v, hk, hx⟩ => ⟨e1, ?_⟩
  unfold kS at hk
  rw [List.getElem?_map] at hk ⊢
  cases hl : l[i]? with
  | none => rw [hl] at hk; cases hk
  | some p => rw [hl] at hk; cases hk; rw [hx]; rfl
theorem src_vals {o : Obj} (hd : Ev td σ H (.ref d)) (h : H d = some (.frz o (.dK (kS l)))) : Src (iVals td) σ H (l.map fun e => e.2) := fun H1 e R q => hd H1 e _ fun H2 e2 => by
  refine ⟨d, o, kS l, rfl, e2 _ _ (e _ _ h), q _ H2 e2 ?_⟩
  have w := walk_values (d := d) (o := o) (kvs := kS l)
  rw [kS_len] at w
  unfold WalkV
  rw [List.length_map]
  refine w.mono (fun H3 e3 => e3 _ _ (e2 _ _ (e _ _ h))) fun i H3 x H4 hi _ ⟨e1, k, hk⟩ => ⟨e1, ?_⟩
  unfold kS at hk
  rw [List.getElem?_map] at hk ⊢
  cases hl : l[i]? with
  | none => rw [hl] at hk; cases hk
  | some p => rw [hl] at hk; cases hk; rfl
theorem srcP_items {o : Obj} (hd : Ev td σ H (.ref d)) (h : H d = some (.frz o (.dK (kS l)))) : SrcP (iItems td) σ H (l.map fun e => (.str e.1, e.2)) := fun H1 e R q => hd H1 e _ fun H2 e2 => by
  refine ⟨d, o, kS l, rfl, e2 _ _ (e _ _ h), q _ H2 e2 ?_⟩
  have w := walk_items (d := d) (o := o) (kvs := kS l)
  rw [kS_len] at w
  unfold WalkP
  rw [List.length_map]
  refine w.mono (fun H3 e3 => e3 _ _ (e2 _ _ (e _ _ h))) fun i H3 x H4 hi _ ⟨T, k, v, hx, hn, he, hk, hv⟩ => ⟨T, (k, v), ?_, hx, hn, he⟩
  unfold kS at hk hv
  simp only [List.getElem?_map] at hk hv ⊢
  cases hl : l[i]? with
  | none => rw [hl] at hk; cases hk
  | some p =>
    rw [hl] at hk hv
    simp only [Option.map_some, Option.some.injEq] at hk hv
    rw [← hk, ← hv]
    rfl
/-! locking -/
theorem ex_lock {u : HO} {od : Obj} (e : Ex H H') (h : H d = some u) : Ex (upd H d (.frz od u)) (upd H' d (.frz od u)) := fun a o ha => by
  by_cases hd : a = d
  · subst hd
    rw [upd_same] at ha ⊢
    exact ha
  · rw [upd_ne hd] at ha ⊢
    exact e a o ha
theorem ex_unlock {u : HO} {od : Obj} {H2 : Hp} (h : H d = some u) (e : Ex (upd H d (.frz od u)) H2) : H2 d = some (.frz od u) ∧ Ex H (upd H2 d u) := by
  refine ⟨e d _ upd_same, fun a o ha => ?_⟩
  by_cases hd : a = d
  · subst hd
    rw [h] at ha
    rw [upd_same]
    exact ha
  · rw [upd_ne hd]
    exact e a o (by rw [upd_ne hd]; exact ha)
theorem el_lock {u : HO} (h : H d = some u) (m : Mut (some u)) (k : ∀ od, EvL te σ (upd H d (.frz od u)) xs) : EvL (tLockE te) σ H xs := fun H1 e Q q =>
  ⟨d, u, e _ _ h, m, fun od => k od _ (ex_lock e h) _ fun p H2 hp e2 hx => by
    obtain ⟨h1, h2⟩ := ex_unlock (e _ _ h) e2
    have hne : p ≠ d := fun z => by subst z; rw [upd_same] at hp; cases hp
    refine ⟨h1, q p _ (by rw [upd_ne hne] at hp; exact hp) h2 ?_⟩
    rw [upd_ne hne]
    exact hx⟩
end
/-! dict comprehensions with keys that differ -/
theorem dc_it {n : Nat} {J : It} {G : Hp → Prop} {Y : Nat → Hp → V → Hp → Prop} (w : Walk J n G Y) {g : TG} {tt : TT} {tk tv : TE} {vs : List Nat} {σ : L2.St} {H1 : Hp} {D : Addr} {Qd : Hp → Prop} (Pv : Nat → Hp → Prop) (h0 : Pv 0 (upd H1 D (.dK []))) (hG : ∀ i H, i ≤ n → Pv i H → G H)
    (hs : ∀ i x H H', i < n → Pv i H → Y i H x H' → g x (wipe σ vs) H' fun σ2 H2 => wipe σ2 vs = wipe σ vs ∧ tt σ2 H2 fun b H3 =>
      if b = true then tk σ2 H3 fun y H4 => tv σ2 H4 fun z H5 => ∃ kvs k, y = kV k ∧ H5 D = some (.dK kvs) ∧ kvs.length < sizeLine ∧ Pv (i + 1) (upd H5 D (.dK (putK kvs k z))) else Pv (i + 1) H3) (hd : ∀ H, Pv n H → Qd H) :
    ∃ W : Nat → Nat → Hp → Prop, (∃ m, W 0 m (upd H1 D (.dK []))) ∧ ∀ i m H, W i m H →
      (J.stop i H ∧ Qd H) ∨ (J.go i H ∧ ∃ Nx : Hp → Prop, (∀ H', Nx H' → ∃ m', m' < m ∧ W (i + 1) m' H') ∧ ∀ x H', J.yld i H x H' → g x (wipe σ vs) H' fun σ2 H2 => wipe σ2 vs = wipe σ vs ∧ tt σ2 H2 fun b H3 =>
        if b = true then tk σ2 H3 fun y H4 => tv σ2 H4 fun z H5 => ∃ kvs k, y = kV k ∧ H5 D = some (.dK kvs) ∧ kvs.length < sizeLine ∧ Nx (upd H5 D (.dK (putK kvs k z))) else Nx H3) := by
  refine ⟨fun i m H => m = n - i ∧ i ≤ n ∧ Pv i H, ⟨n, by simp, Nat.zero_le _, h0⟩, ?_⟩
  rintro i m H ⟨rfl, hi, p⟩
  have q := hG i H hi p
  by_cases hlt : i < n
  · exact .inr ⟨w.goes i H hlt q, Pv (i + 1), fun H' p' => ⟨n - (i + 1), by omega, rfl, hlt, p'⟩, fun x H' y => hs i x H H' hlt p (w.yields i H x H' hlt q y)⟩
  · have e : i = n := by omega
    subst e
    exact .inl ⟨w.stops H q, hd H p⟩
/-- a new dict -/
def EvD (te : TE) (σ : L2.St) (H : Hp) (l : List (Str × V)) : Prop := ∀ H1, Ex H H1 → ∀ Q : VK, (∀ p H2, H1 p = none → Ex H1 H2 → H2 p = some (.dK (kS l)) → Q (.ref p) H2) → te σ H1 Q
section
variable {K : PySem.W.Frag} {σ : L2.St} {H : Hp} {wi : TI} {te tk tv : TE} {xs : List V} {D : Ends} {tz : TS} {d : Addr} {l : List (Str × V)}
theorem ed_dc {j : Nat} {vs : List Nat} (kf : V → Str) (vf : V → V) (h : Src wi σ H xs) (hz : xs.length ≤ 40000) (hn : (xs.map kf).Nodup) (hw : ∀ x, wipe ((wipe σ vs).set j (some x)) vs = wipe σ vs)
    (hk : ∀ (x : V) H1, Ex H H1 → x ∈ xs → Ev tk ((wipe σ vs).set j (some x)) H1 (.str (kf x))) (hv : ∀ (x : V) H1, Ex H H1 → x ∈ xs → Ev tv ((wipe σ vs).set j (some x)) H1 (vf x)) : EvD (tDc wi (gName j) tYes tk tv vs) σ H (xs.map fun x => (kf x, vf x)) := fun H0 e Q q =>
  h H0 e _ fun J H1 e1 w Dl hD => dc_it w (fun i H' => Ex H1 H' ∧ H' Dl = some (.dK (kS ((xs.take i).map fun x => (kf x, vf x))))) ⟨Ex.new hD, by rw [upd_same]; rfl⟩ (fun i H' _ p => p.1)
    (fun i x H' H'' hi p y => by
      obtain ⟨e2, hx⟩ := y
      subst e2
      refine ⟨hw x, ?_⟩
      refine et_yes H'' (Ex.refl H'') _ fun H3 e3 => ?_
      rw [if_pos rfl]
      have hm := List.mem_of_getElem? hx
      have p : Ex H1 H3 ∧ H3 Dl = some (.dK (kS ((xs.take i).map fun x => (kf x, vf x)))) := ⟨p.1.trans e3, e3 _ _ p.2⟩
      refine hk x _ ((e.trans e1).trans p.1) hm _ (Ex.refl _) _ fun H4 e4 => hv x _ (((e.trans e1).trans p.1).trans e4) hm _ (Ex.refl _) _ fun H5 e5 => ?_
      refine ⟨_, Sum.inr (kf x), rfl, e5 _ _ (e4 _ _ p.2), ?_, ?_, ?_⟩
      · rw [kS_len, List.length_map, List.length_take]
        exact sz_lt (by omega)
      · exact ((p.1.trans e4).trans e5).mut hD
      · rw [upd_same, putK_kS]
        · congr 3
          rw [List.take_succ, hx, List.map_append]
          rfl
        · rw [lookup_no, List.map_map]
          have ht : xs.map kf = (xs.take i).map kf ++ kf x :: (xs.drop (i + 1)).map kf := by
            rw [← List.map_cons, ← List.map_append]
            congr 1
            have hlt : i < xs.length := by omega
            have hxe : xs[i] = x := by rw [List.getElem?_eq_getElem hlt] at hx; exact Option.some.inj hx
            rw [← hxe, List.getElem_cons_drop, List.take_append_drop]
          rw [ht] at hn
          intro hin
          exact (List.nodup_append.mp hn).2.2 _ hin _ List.mem_cons_self rfl)
    (fun H' p => by
      have e3 := p.1
      have h3 := p.2
      rw [List.take_length] at h3
      exact q Dl H' (fresh_back e1 hD) (e1.trans e3) h3)
theorem ed_lock {u : HO} (h : H d = some u) (m : Mut (some u)) (k : ∀ od, EvD te σ (upd H d (.frz od u)) l) : EvD (tLockE te) σ H l := fun H1 e Q q =>
  ⟨d, u, e _ _ h, m, fun od => k od _ (ex_lock e h) _ fun p H2 hp e2 hx => by
    obtain ⟨h1, h2⟩ := ex_unlock (e _ _ h) e2
    have hne : p ≠ d := fun z => by subst z; rw [upd_same] at hp; cases hp
    refine ⟨h1, q p _ (by rw [upd_ne hne] at hp; exact hp) h2 ?_⟩
    rw [upd_ne hne]
    exact hx⟩
theorem q_asgD {i : Nat} (h : EvD te σ H l) (k : ∀ p H1, H p = none → Ex H H1 → H1 p = some (.dK (kS l)) → tz D (σ.set i (some (.ref p))) H1) : tSeq (tAsg te (gName i)) tz D σ H := h H (Ex.refl H) _ k
theorem ed_new : EvD tDNewK σ H [] := fun H1 e Q q p hp => q p _ hp (Ex.new hp) upd_same
/-- sorted(d) -/
theorem el_sortedD {td : TE} (hd : Ev td σ H (.ref d)) (h : DS H d l) (hz : l.length < 64) {P : List Str → Prop} (hP : ∀ ys : List Str, ys.Perm (l.map (·.1)) → sortedS ys = true → P ys) : ∀ H1, Ex H H1 → ∀ Q : VK, (∀ ys p H2, P ys → H1 p = none → Ex H1 H2 → H2 p = some (.lst (ys.map V.str)) → Q (.ref p) H2) → tCB rSortedD (tCons td tNil) σ H1 Q := fun H1 e Q q =>
  hd H1 e _ fun H2 e2 => ⟨d, kS l, l.map (·.1), rfl, ds_ex (e.trans e2) h, by unfold kS; rw [List.map_map, List.map_map]; rfl, by rw [List.length_map]; exact hz, fun ys p hy hs hp => q ys p _ (hP ys hy hs) (fresh_back e2 hp) (e2.trans (Ex.new hp)) upd_same⟩
end
/-! d.update(d2) -/
def rUpdD : V → List V → Hp → VK → Prop := fun x xs H Q => ∃ a b ks ls, x = .ref a ∧ xs = [.ref b] ∧ a ≠ b ∧ H a = some (.dK ks) ∧ Rd H b (.dK ls) ∧ ks.length + ls.length ≤ sizeLine ∧ Q .non (upd H a (.dK (mergeK ks ls)))
theorem mt_updateD {X : Cx} : MtM X "dict.update" rUpdD := by
  intro pins s σ H x vs v us Q I rx rv h
  obtain ⟨a, b, ks, ls, rfl, rfl, hne, ha, hb, hz, q⟩ := h
  cases (show v = Value.ref a from rx)
  obtain ⟨u, rfl, ru⟩ := rv.one
  cases (show u = Value.ref b from ru)
  obtain ⟨z1, d1, vs1, r1, dd1⟩ := dk_of I.hok ha
  obtain ⟨z2, d2, vs2, r2, dd2⟩ := dk_rd I.hok hb
  refine call_meetsIn PySem.F.slot_dict_update dd1.typeIs PySem.F.entry_dict_update (PySem.F.args_dict_update_2 _ _) (meets_dict_update (mixKind X.prog X.w) a b hne d2) ⟨vs1, vs2, dd1, dd2, by rw [← r1.length, ← r2.length]; exact hz, fun h' hm _ hs => ?_⟩
  have he : ∃ q, h'.get? a = some q := let ⟨q, _, _, hq, _⟩ := hm; ⟨q, hq⟩
  have hl : (mergeK ks ls).length ≤ sizeLine := Nat.le_trans (length_mergeK ls ks) hz
  exact ⟨.non, _, d_write I (by rw [ha]; exact True.intro) hs he (dk_new hl d1 (KV.merge r2 r1) hm), rfl, q⟩

end K08

namespace K08
open PySem PySem.Spec PyProof.Rows L2 Evl
/-! ### rows of texts, each below the next (plain) -/
theorem lt_iff {a b : Str} : ltS a b = true ↔ TL.tl a < TL.tl b := decide_eq_true_iff
theorem ltS_irr (a : Str) : ltS a a = false := by
  refine decide_eq_false fun h => ?_
  exact absurd h (List.lt_irrefl _)
theorem ltS_trans {a b c : Str} (h1 : ltS a b = true) (h2 : ltS b c = true) : ltS a c = true := lt_iff.mpr (List.lt_trans (lt_iff.mp h1) (lt_iff.mp h2))
theorem ltS_tri {a b : Str} (h1 : ltS a b = false) (h2 : ltS b a = false) : a = b := by
  apply TL.ext_tl
  have g1 : ¬ TL.tl a < TL.tl b := of_decide_eq_false h1
  have g2 : ¬ TL.tl b < TL.tl a := of_decide_eq_false h2
  exact List.le_antisymm (List.not_lt.mp g2) (List.not_lt.mp g1)
abbrev Asc (l : List Str) : Prop := l.Pairwise fun a b => ltS a b = true
theorem asc_iff : ∀ {l : List Str}, ascS l = true ↔ Asc l
  | [] => ⟨fun _ => .nil, fun _ => rfl⟩
  | [x] => ⟨fun _ => by simp, fun _ => rfl⟩
  | x :: y :: r => by
    have e : ascS (x :: y :: r) = (ltS x y && ascS (y :: r)) := rfl
    rw [e, Bool.and_eq_true, asc_iff (l := y :: r)]
    constructor
    · rintro ⟨h1, h2⟩
      refine List.pairwise_cons.mpr ⟨fun z hz => ?_, h2⟩
      rcases List.mem_cons.mp hz with rfl | hz
      · exact h1
      · exact ltS_trans h1 ((List.pairwise_cons.mp h2).1 z hz)
    · intro h
      obtain ⟨h1, h2⟩ := List.pairwise_cons.mp h
      exact ⟨h1 y List.mem_cons_self, h2⟩
theorem asc_nodup {l : List Str} (h : Asc l) : l.Nodup := h.imp fun {a b} hab e => by subst e; rw [ltS_irr] at hab; cases hab
theorem asc_ext : ∀ {a b : List Str}, Asc a → Asc b → (∀ z, z ∈ a ↔ z ∈ b) → a = b
  | [], [], _, _, _ => rfl
  | [], y :: s, _, _, h => absurd ((h y).mpr List.mem_cons_self) (by simp)
  | x :: r, [], _, _, h => absurd ((h x).mp List.mem_cons_self) (by simp)
  | x :: r, y :: s, ha, hb, h => by
    obtain ⟨a1, a2⟩ := List.pairwise_cons.mp ha
    obtain ⟨b1, b2⟩ := List.pairwise_cons.mp hb
    have e : x = y := by
      rcases List.mem_cons.mp ((h x).mp List.mem_cons_self) with e | hx
      · exact e
      rcases List.mem_cons.mp ((h y).mpr List.mem_cons_self) with e | hy
      · exact e.symm
      have := ltS_trans (a1 y hy) (b1 x hx)
      rw [ltS_irr] at this
      cases this
    subst e
    congr 1
    refine asc_ext a2 b2 fun z => ⟨fun hz => ?_, fun hz => ?_⟩
    · rcases List.mem_cons.mp ((h z).mp (List.mem_cons_of_mem _ hz)) with e | h'
      · subst e
        have := a1 z hz
        rw [ltS_irr] at this
        cases this
      · exact h'
    · rcases List.mem_cons.mp ((h z).mpr (List.mem_cons_of_mem _ hz)) with e | h'
      · subst e
        have := b1 z hz
        rw [ltS_irr] at this
        cases this
      · exact h'
theorem sorted_asc : ∀ {l : List Str}, sortedS l = true → l.Nodup → Asc l
  | [], _, _ => .nil
  | [x], _, _ => by simp
  | x :: y :: r, h, hn => by
    have e : (!PySem.Spec.ltCps (TL.tl y) (TL.tl x) && sortedS (y :: r)) = true := h
    rw [Bool.and_eq_true, ltCps_eq] at e
    have hA := sorted_asc e.2 (List.nodup_cons.mp hn).2
    have hyx : ltS y x = false := by
      have := e.1
      simpa [ltS] using this
    have hxy : ltS x y = true := by
      cases hh : ltS x y with
      | true => rfl
      | false => exact absurd (by rw [ltS_tri hh hyx]; exact List.mem_cons_self) (List.nodup_cons.mp hn).1
    refine List.pairwise_cons.mpr ⟨fun z hz => ?_, hA⟩
    rcases List.mem_cons.mp hz with rfl | hz
    · exact hxy
    · exact ltS_trans hxy ((List.pairwise_cons.mp hA).1 z hz)
/-- z put in its place -/
def insS (z : Str) : List Str → List Str
  | [] => [z]
  | y :: r => if ltS z y = true then z :: y :: r else if z = y then y :: r else y :: insS z r
theorem mem_insS {z w : Str} : ∀ {l : List Str}, w ∈ insS z l ↔ w = z ∨ w ∈ l
  | [] => by simp [insS]
  | y :: r => by
    unfold insS
    split
    · simp
    · split
      · rename_i e
        subst e
        simp
      · simp only [List.mem_cons, mem_insS (l := r)]
        constructor
        · rintro (h | h | h)
          · exact .inr (.inl h)
          · exact .inl h
          · exact .inr (.inr h)
        · rintro (h | h | h)
          · exact .inr (.inl h)
          · exact .inl h
          · exact .inr (.inr h)
theorem asc_insS {z : Str} : ∀ {l : List Str}, Asc l → Asc (insS z l)
  | [], _ => by simp [insS]
  | y :: r, h => by
    obtain ⟨h1, h2⟩ := List.pairwise_cons.mp h
    unfold insS
    split
    · rename_i hl
      refine List.pairwise_cons.mpr ⟨fun w hw => ?_, h⟩
      rcases List.mem_cons.mp hw with rfl | hw
      · exact hl
      · exact ltS_trans hl (h1 w hw)
    · rename_i hl
      split
      · exact h
      · rename_i hne
        refine List.pairwise_cons.mpr ⟨fun w hw => ?_, asc_insS h2⟩
        rcases mem_insS.mp hw with rfl | hw
        · cases hh : ltS y w with
          | true => rfl
          | false => exact absurd (ltS_tri (by simpa using hl) hh) hne
        · exact h1 w hw
/-- the texts of l, each once, in their order -/
def setSort (l : List Str) : List Str := l.foldr insS []
theorem mem_setSort {w : Str} : ∀ {l : List Str}, w ∈ setSort l ↔ w ∈ l
  | [] => by simp [setSort]
  | y :: r => by
    show w ∈ insS y (setSort r) ↔ _
    rw [mem_insS, mem_setSort, List.mem_cons]
theorem asc_setSort : ∀ (l : List Str), Asc (setSort l)
  | [] => .nil
  | y :: r => asc_insS (asc_setSort r)
theorem setSort_is {l m : List Str} (h : Asc l) (hm : ∀ z, z ∈ l ↔ z ∈ m) : l = setSort m := asc_ext h (asc_setSort m) fun z => (hm z).trans mem_setSort.symm
theorem setSort_asc {l : List Str} (h : Asc l) : setSort l = l := (setSort_is h fun _ => Iff.rfl).symm
theorem setSort_eq {l m : List Str} (h : ∀ z, z ∈ l ↔ z ∈ m) : setSort l = setSort m := setSort_is (asc_setSort l) fun z => mem_setSort.trans (h z)
theorem perm_setSort {ys l : List Str} (hp : ys.Perm l) (hs : sortedS ys = true) (hn : l.Nodup) : ys = setSort l := setSort_is (sorted_asc hs (hp.nodup_iff.mpr hn)) fun _ => hp.mem_iff
theorem setSort_len : ∀ (l : List Str), (setSort l).length ≤ l.length
  | [] => Nat.le_refl _
  | y :: r => by
    have h : ∀ m : List Str, (insS y m).length ≤ m.length + 1 := fun m => by
      induction m with
      | nil => exact Nat.le_refl _
      | cons x t ih =>
        unfold insS
        split
        · exact Nat.le_refl _
        · split
          · exact Nat.le_succ _
          · simp only [List.length_cons]; omega
    have := h (setSort r)
    have := setSort_len r
    show (insS y (setSort r)).length ≤ r.length + 1
    omega
theorem inV_strs {z : Str} {l : List Str} : inV (.str z) (l.map V.str) = decide (z ∈ l) := by
  unfold inV
  rw [List.any_map]
  induction l with
  | nil => rfl
  | cons y r ih =>
    rw [List.any_cons, ih]
    show ((y == z) || decide (z ∈ r)) = _
    by_cases h : y = z
    · subst h
      simp
    · rw [beq_false_of_ne h]
      have h' : ¬ z = y := fun e => h e.symm
      simp [h']
theorem flatV_strs (l : List Str) : (l.map V.str).all flatV = true := by
  rw [List.all_map]
  exact List.all_eq_true.mpr fun _ _ => rfl

end K08

namespace K08
open PySem PySem.Spec PyProof.Rows L2 Evl
/-! ### dicts whose values stand for something -/
def RelR {α : Type} (R : Hp → V → α → Prop) (H : Hp) : List (Str × V) → List (Str × α) → Prop := Paired fun e b => e.1 = b.1 ∧ R H e.2 b.2
section
variable {α : Type} {R : Hp → V → α → Prop} {H H' : Hp} {l : List (Str × V)} {m : List (Str × α)}
theorem RelR.keys (h : RelR R H l m) : l.map (·.1) = m.map (·.1) := by
  unfold RelR at h
  induction h with
  | nil => rfl
  | cons e _ ih => rw [List.map_cons, List.map_cons, ih, e.1]
theorem RelR.len (h : RelR R H l m) : l.length = m.length := by
  have := congrArg List.length h.keys
  simpa using this
theorem RelR.mono (h : RelR R H l m) (k : ∀ v a, R H v a → R H' v a) : RelR R H' l m := L2.Paired.mapP h fun _ _ e => ⟨e.1, k _ _ e.2⟩
theorem RelR.get {z : Str} {a : α} (h : RelR R H l m) (hm : m.lookup z = some a) : ∃ v, l.lookup z = some v ∧ R H v a := by
  unfold RelR at h
  induction h with
  | nil => cases hm
  | @cons e b l1 l2 hd _ ih =>
    rw [List.lookup_cons] at hm ⊢
    rw [hd.1]
    by_cases hz : z = b.1
    · subst hz
      rw [beq_self_eq_true] at hm ⊢
      cases hm
      exact ⟨_, rfl, hd.2⟩
    · rw [beq_false_of_ne hz] at hm ⊢
      exact ih hm
theorem RelR.isSome {z : Str} (h : RelR R H l m) : (l.lookup z).isSome = (m.lookup z).isSome := by
  unfold RelR at h
  induction h with
  | nil => rfl
  | @cons e b l1 l2 hd _ ih =>
    rw [List.lookup_cons, List.lookup_cons, hd.1]
    by_cases hz : z = b.1
    · rw [hz, beq_self_eq_true]
      rfl
    · rw [beq_false_of_ne hz]
      exact ih
theorem RelR.no {z : Str} (h : RelR R H l m) (hm : m.lookup z = none) : l.lookup z = none := by
  have e := h.isSome (z := z)
  rw [hm] at e
  cases hl : l.lookup z with
  | none => rfl
  | some v => rw [hl] at e; cases e
theorem RelR.snoc {z : Str} {v : V} {a : α} (h : RelR R H l m) (hv : R H v a) : RelR R H (l ++ [(z, v)]) (m ++ [(z, a)]) := Paired.snoc h ⟨rfl, hv⟩
theorem RelR.at {i : Nat} {e : Str × V} (h : RelR R H l m) (hi : l[i]? = some e) : ∃ b, m[i]? = some b ∧ e.1 = b.1 ∧ R H e.2 b.2 := paired_get h hi
theorem RelR.mem {e : Str × V} (h : RelR R H l m) (hi : e ∈ l) : ∃ b ∈ m, e.1 = b.1 ∧ R H e.2 b.2 := by
  obtain ⟨i, hl, he⟩ := List.getElem_of_mem hi
  obtain ⟨b, hb, r⟩ := h.at (i := i) (by rw [List.getElem?_eq_getElem hl, he])
  exact ⟨b, List.mem_of_getElem? hb, r⟩
theorem isSome_mem {z : Str} {m : List (Str × α)} : (m.lookup z).isSome = decide (z ∈ m.map (·.1)) := by
  induction m with
  | nil => rfl
  | cons e r ih =>
    rw [List.lookup_cons]
    by_cases hz : z = e.1
    · subst hz
      rw [beq_self_eq_true]
      simp
    · rw [beq_false_of_ne hz]
      show (r.lookup z).isSome = _
      rw [ih]
      simp [hz]
end
/-- columns: a tuple of texts -/
def tupR (H : Hp) (v : V) (c : List Str) : Prop := ∃ t, v = .ref t ∧ H t = some (.tup (c.map V.str))
def ratR (C : Addr) (H : Hp) (v : V) (z : Int × Int) : Prop := ∃ a, v = .ref a ∧ RatA C H a z.1 z.2
theorem tupR_ex {H H' : Hp} (e : Ex H H') (v : V) (c : List Str) (h : tupR H v c) : tupR H' v c := let ⟨t, h1, h2⟩ := h; ⟨t, h1, e _ _ h2⟩
theorem ratR_ex {C : Addr} {H H' : Hp} (e : Ex H H') (v : V) (z : Int × Int) (h : ratR C H v z) : ratR C H' v z := let ⟨t, h1, h2⟩ := h; ⟨t, h1, rat_ex e h2⟩
theorem ne_dk {H : Hp} {a b : Addr} {xs : List V} {kvs : List (Key × V)} (ha : H a = some (.tup xs)) (hb : H b = some (.dK kvs)) : a ≠ b := fun e => by subst e; rw [ha] at hb; cases hb
/-- .. when another object, no tuple, changes -/
theorem tupR_upd {H : Hp} {d : Addr} {u o : HO} (hd : H d = some o) (ho : ∀ xs, o ≠ .tup xs) (v : V) (c : List Str) (h : tupR H v c) : tupR (upd H d u) v c := by
  obtain ⟨t, h1, h2⟩ := h
  have hne : t ≠ d := fun e => by subst e; rw [h2] at hd; exact ho _ (Option.some.inj hd).symm
  exact ⟨t, h1, by rw [upd_ne hne]; exact h2⟩
/-- .. a dict changes -/
theorem ratR_upd {C : Addr} {H : Hp} {d : Addr} {u : HO} {kvs : List (Key × V)} (hd : H d = some (.dK kvs)) (v : V) (z : Int × Int) (h : ratR C H v z) : ratR C (upd H d u) v z := by
  obtain ⟨t, h1, dx, h2⟩ := h
  refine ⟨t, h1, dx, ?_⟩
  rcases h2 with ⟨h3, h4⟩ | ⟨h3, h4⟩
  · cases h4
  · have n1 : t ≠ d := fun e => by subst e; rw [h3] at hd; exact absurd (Option.some.inj hd) (fun x => nomatch x)
    have n2 : dx ≠ d := fun e => by subst e; rw [h4] at hd; exact absurd (Option.some.inj hd) (fun x => nomatch x)
    exact .inr ⟨by rw [upd_ne n1]; exact h3, by rw [upd_ne n2]; exact h4⟩
abbrev Tabs0 := List (Str × List Str)
/-- all columns, each once, in their order -/
def colsOf (tb : Tabs0) : List Str := setSort (tb.flatMap (·.2))
theorem mem_colsOf {tb : Tabs0} {z : Str} : z ∈ colsOf tb ↔ ∃ e ∈ tb, z ∈ e.2 := by
  unfold colsOf
  rw [mem_setSort, List.mem_flatMap]
def areCols (l : List Str) : Bool := areNames l && (decide (1 ≤ l.length) && decide (l.length ≤ 6))
def isSize (z : Int × Int) : Bool := !decide (60 < z.2) && (decide (0 ≤ z.1) && decide (z.1 ≤ 9 * z.2))
/-! putting into a dict, whatever stands there -/
theorem put_any {l : List (Str × V)} {z : Str} {v : V} (hn : (l.map (·.1)).Nodup) : ∃ c, putK (kS l) (Sum.inr z) v = kS c ∧ (c.map (·.1)).Nodup ∧ (∀ y, y ∈ c.map (·.1) ↔ y ∈ l.map (·.1) ∨ y = z) ∧ c.length ≤ l.length + 1 := by
  cases hl : l.lookup z with
  | none =>
    refine ⟨l ++ [(z, v)], putK_kS v hl, ?_, ?_, by simp⟩
    · rw [List.map_append]
      exact nd_snoc hn (lookup_no.mp hl)
    · intro y
      simp
  | some w =>
    refine ⟨l.map fun e => if e.1 = z then (e.1, v) else e, ?_, ?_, ?_, by simp⟩
    · unfold putK
      rw [valV_any, valV_kS, hl]
      show (kS l).map _ = kS (l.map _)
      unfold kS
      rw [List.map_map, List.map_map]
      apply List.map_congr_left
      intro e _
      show (if (Sum.inr e.1 : Key) = Sum.inr z then ((Sum.inr e.1 : Key), v) else (Sum.inr e.1, e.2)) = _
      by_cases h : e.1 = z
      · rw [if_pos (by rw [h]), Function.comp, if_pos h]
      · rw [if_neg (fun q => h (Sum.inr.inj q)), Function.comp, if_neg h]
    · have e : (l.map fun e => if e.1 = z then (e.1, v) else e).map (·.1) = l.map (·.1) := by
        rw [List.map_map]
        apply List.map_congr_left
        intro e _
        show (if e.1 = z then (e.1, v) else e).1 = _
        split <;> rfl
      rw [e]
      exact hn
    · intro y
      have e : (l.map fun e => if e.1 = z then (e.1, v) else e).map (·.1) = l.map (·.1) := by
        rw [List.map_map]
        apply List.map_congr_left
        intro e _
        show (if e.1 = z then (e.1, v) else e).1 = _
        split <;> rfl
      rw [e]
      constructor
      · exact .inl
      · rintro (h | rfl)
        · exact h
        · exact List.mem_map.mpr ⟨_, lookup_mem hl, rfl⟩
theorem merge_any : ∀ {b l : List (Str × V)}, (l.map (·.1)).Nodup → ∃ c, mergeK (kS l) (kS b) = kS c ∧ (c.map (·.1)).Nodup ∧ (∀ y, y ∈ c.map (·.1) ↔ y ∈ l.map (·.1) ∨ y ∈ b.map (·.1)) ∧ c.length ≤ l.length + b.length
  | [], l, hn => ⟨l, rfl, hn, fun y => by simp, by simp⟩
  | e :: b, l, hn => by
    obtain ⟨c1, h1, h2, h3, h4⟩ := put_any (z := e.1) (v := e.2) hn
    obtain ⟨c, g1, g2, g3, g4⟩ := merge_any (b := b) h2
    refine ⟨c, ?_, g2, fun y => ?_, ?_⟩
    · show mergeK (putK (kS l) (Sum.inr e.1) e.2) (kS b) = _
      rw [h1, g1]
    · rw [g3, h3, List.map_cons, List.mem_cons, or_assoc]
    · simp only [List.length_cons]
      omega
section
variable {K : PySem.W.Frag} {σ : L2.St} {H : Hp} {te to td ta : TE} {d : Addr} {a b l : List (Str × V)} {D : Ends} {wi : TI} {tu : TS} {xs : List V}
/-- f.update(d) -/
theorem s_updD (ho : Ev to σ H (.ref d)) (h : H d = some (.dK (kS a))) (hb : EvD te σ H b) (hn : (a.map (·.1)).Nodup) (hz : a.length + b.length ≤ 100000)
    (k : ∀ c H1, Ex H H1 → (c.map (·.1)).Nodup → (∀ y, y ∈ c.map (·.1) ↔ y ∈ a.map (·.1) ∨ y ∈ b.map (·.1)) → c.length ≤ a.length + b.length → D.nx σ (upd H1 d (.dK (kS c)))) : tDrop (tBM K "dict" rUpdD to (tCons te tNil)) D σ H :=
  ho H (Ex.refl H) _ fun H1 e1 => ⟨.inr (.inr (.inl ⟨rfl, .inl ⟨_, e1 _ _ h⟩⟩)), hb H1 e1 _ fun p H2 hp e2 hx => by
    obtain ⟨c, hc, hc1, hc2, hc3⟩ := merge_any (b := b) hn
    have hd := e2 _ _ (e1 _ _ h)
    have hne : d ≠ p := fun z => by subst z; rw [e1 _ _ h] at hp; cases hp
    refine ⟨d, p, kS a, kS b, rfl, rfl, hne, hd, .inl hx, by rw [kS_len, kS_len]; exact sz_of hz, ?_⟩
    rw [hc]
    exact k c H2 (e1.trans e2) hc1 hc2 hc3⟩
/-- for x in d.values(), d locked -/
theorem s_forVals {o : Obj} {j : Nat} (hd : Ev td σ H (.ref d)) (h : H d = some (.frz o (.dK (kS l)))) (Pv : Nat → L2.St → Hp → Prop) (h0 : ∀ H1, Ex H H1 → Pv 0 σ H1) (hG : ∀ i σ' H', i ≤ l.length → Pv i σ' H' → H' d = some (.frz o (.dK (kS l))))
    (hs : ∀ i e σ' H', l[i]? = some e → Pv i σ' H' → tu { D with nx := Pv (i + 1), ct := Pv (i + 1), bk := D.nx } (σ'.set j (some e.2)) H') (hD : ∀ σ' H', Pv l.length σ' H' → D.nx σ' H') : tFor (iVals td) (gName j) tu D σ H := hd H (Ex.refl H) _ fun H1 e1 => by
  have w := walk_values (d := d) (o := o) (kvs := kS l)
  rw [kS_len] at w
  refine ⟨d, o, kS l, rfl, e1 _ _ h, for_it w Pv (h0 H1 e1) hG (fun i x σ' H2 H3 hi p y => ?_) hD⟩
  obtain ⟨e2, k, hk⟩ := y
  subst e2
  unfold kS at hk
  rw [List.getElem?_map] at hk
  cases hl : l[i]? with
  | none => rw [hl] at hk; cases hk
  | some e =>
    rw [hl] at hk
    cases hk
    exact hs i e σ' _ hl p
/-- sorted(d), the keys differ -/
theorem el_sortedK (hd : Ev td σ H (.ref d)) (h : DS H d l) (hn : (l.map (·.1)).Nodup) (hz : l.length < 64) : EvL (tCB rSortedD (tCons td tNil)) σ H ((setSort (l.map (·.1))).map V.str) := fun H1 e Q q =>
  el_sortedD hd h hz (P := fun ys => ys = setSort (l.map (·.1))) (fun ys hp hs => perm_setSort hp hs hn) H1 e Q fun ys p H2 hy hp e2 hx => by
    subst hy
    exact q p H2 hp e2 hx
/-- tuple(a new list) -/
theorem eu_tupN (h : EvL te σ H xs) : EvU (tCB (rTupOf K) (tCons te tNil)) σ H xs := fun H1 e Q q => h H1 e _ fun p H2 hp e2 hx =>
  ⟨p, xs, rfl, .inl ⟨SqL.of hx, fun l hl => q l _ (fresh_back e2 hl) (e2.trans (Ex.new hl)) upd_same⟩⟩
theorem ev_lenT {p : Addr} (ha : Ev ta σ H (.ref p)) (h : SqT K H p xs) : Ev (tCB (rLenS K) (tCons ta tNil)) σ H (.int (xs.length : Int)) := fun H1 e Q q => ha H1 e _ fun H2 e2 => ⟨p, xs, rfl, .inr (ex_t (e.trans e2) h), q H2 e2⟩
theorem ev_lenU (ha : EvU ta σ H xs) : Ev (tCB (rLenS K) (tCons ta tNil)) σ H (.int (xs.length : Int)) := fun H1 e Q q => ha H1 e _ fun p H2 _ e2 hx => ⟨p, xs, rfl, .inr (SqT.of hx), q H2 e2⟩
end

/-! ### are_columns -/
def t_are_columns (K : PySem.W.Frag) : TS :=
  (tRet (tAndV (tCl sp_are_names (tCons (tVar 0) tNil)) (tChain rLeI rLeI (tC (.int 1)) (tCB (rLenS K) (tCons (tVar 0) tNil)) (tC (.int 6)))))
def sp_are_columns : Sp := fun vs H Q _ => ∃ (a : Addr) (l : List Str), vs = [.ref a] ∧ H a = some (.tup (l.map V.str)) ∧ l.length ≤ 40000 ∧ (∀ z ∈ l, z.length ≤ 40000) ∧ ∀ H', Ex H H' → Q (.bl (areCols l)) H'
theorem len_are_columns : ∀ vs H Q E, sp_are_columns vs H Q E → vs.length = 1 := fun vs H Q E ⟨_, _, e, _⟩ => by rw [e]; rfl
theorem spv_are_names {H : Hp} {a : Addr} {l : List Str} (h : H a = some (.tup (l.map V.str))) (h1 : l.length ≤ 40000) (h2 : ∀ z ∈ l, z.length ≤ 40000) : SpV sp_are_names [.ref a] H (.bl (areNames l)) := fun H1 e Q q E => ⟨a, l, rfl, e _ _ h, h1, h2, q⟩
theorem len_bl (n k : Nat) : decide ((k : Int) ≤ (n : Int)) = decide (k ≤ n) := decide_eq_decide.mpr (by omega)
theorem pure_are_columns {K : PySem.W.Frag} {vs : List V} {H : Hp} {Q : VK} {E : XK} (h : sp_are_columns vs H Q E) : t_are_columns K { nx := fun _ H' => Q .non H', rt := Q } (start ["value"] vs) H := by
  obtain ⟨a, l, rfl, ha, hl, hz, k⟩ := h
  refine s_ret (ev_is (ev_andV (ev_cl (ea_cons (ev_var rfl) ea_nil) (spv_are_names ha hl hz)) fun _ => ev_chain ev_c (ev_lenT (ev_var rfl) (SqT.of ha)) rv_I0 (fun _ => ev_c) fun _ => rv_I0) ?_) k
  rw [List.length_map]
  unfold areCols
  rw [show decide ((1 : Int) ≤ (l.length : Int)) = decide (1 ≤ l.length) from len_bl l.length 1, show decide ((l.length : Int) ≤ 6) = decide (l.length ≤ 6) from len_bl 6 l.length]
theorem sc_are_columns : FnScope ["value"] ["value"] (defScope s_are_columns) := ⟨rfl, rfl, rfl, by decide +kernel, rfl, by decide +kernel, by decide +kernel⟩
theorem d_are_columns {P : Program} {w : World} {K : PySem.W.Frag} {mg : Str → Option Value} {base : Heap} (T : Txt K mg) {f : Addr} {cdv : Value} {A : Around} {outer : List Env} {s : Shared} {H : Hp} {E : XK} (hr : Room 2 (A.deeper (envOfC "are_columns" (defScope s_are_columns) s.heap.objs.size f cdv))) :
    PSs (cxOf CX0 P w K mg base ["value"] "are_columns" (defScope s_are_columns) f cdv A outer s H E).nox (defBody s_are_columns) (t_are_columns K) := by
  have hu := hu_of hr
  exact (pss_one (ps_ret (pe_and (pe_cl (cl_are_names T) hr (pa_cons (pv 0) pa_nil)) (pe_one (pe_chain op_le op_le pe_int (pe_callB call_len_seq (by rfl) T.b_len (by decide +kernel) (pa_cons (pv 0) pa_nil)) (pe_k T.k_MOST))))))
theorem ok_are_columns {P : Program} {w : World} {K : PySem.W.Frag} {mg : Str → Option Value} {base : Heap} (T : Txt K mg) : FnOk P w K mg base CX0 3 T.are_columns.f T.are_columns.fd ["value"] (sp_are_columns) :=
  ok0 T.are_columns.F sc_are_columns len_are_columns fun cdv A outer s H vs Q E hr h => ⟨t_are_columns K, d_are_columns T hr, pure_are_columns h⟩
theorem cl_are_columns {P : Program} {w : World} {K : PySem.W.Frag} {mg : Str → Option Value} {base : Heap} (T : Txt K mg) : Cl P w K mg base 3 "are_columns" sp_are_columns := cl_of T.are_columns (ok_are_columns T) fun _ _ _ _ _ _ us hl => match us, hl with | [_], _ => rfl

/-! ### is_size -/
def t_is_size (K : PySem.W.Frag) {mg : Str → Option Value} (T : Txt K mg) : TS :=
  (tSeq (tIfS (tOr (tNot (tB (tCB (SlX.rIsiSl K (.ref T.Ratio.C)) (tCons (tVar 0) (tCons (tC (.ref T.Ratio.C)) tNil))))) (tTest (tOp rGtI (SlX.tPropSl T.Ratio.C (sp_Ratio_bottom T.Ratio.C) E0 (tVar 0)) (tC (.int 60))))) (tRet (tC (.bl false))) tNext)
    (tRet (tChain rLeI rLeI (tC (.int 0)) (SlX.tPropSl T.Ratio.C (sp_Ratio_top T.Ratio.C) E0 (tVar 0)) (tOp rTimes (tC (.int 9)) (SlX.tPropSl T.Ratio.C (sp_Ratio_bottom T.Ratio.C) E0 (tVar 0))))))
def sp_is_size {K : PySem.W.Frag} {mg : Str → Option Value} (T : Txt K mg) : Sp := fun vs H Q _ => ∃ (a : Addr) (p q : Int), vs = [.ref a] ∧ RatA T.Ratio.C H a p q ∧ ∀ H', Ex H H' → Q (.bl (isSize (p, q))) H'
theorem len_is_size {K : PySem.W.Frag} {mg : Str → Option Value} {T : Txt K mg} : ∀ vs H Q E, sp_is_size T vs H Q E → vs.length = 1 := fun vs H Q E ⟨_, _, _, e, _⟩ => by rw [e]; rfl
theorem pure_is_size {K : PySem.W.Frag} {mg : Str → Option Value} (T : Txt K mg) {vs : List V} {H : Hp} {Q : VK} {E : XK} (h : sp_is_size T vs H Q E) : t_is_size K T { nx := fun _ H' => Q .non H', rt := Q } (start ["value"] vs) H := by
  obtain ⟨a, p, q, rfl, ha, k⟩ := h
  obtain ⟨da, hs⟩ := id ha
  have top : ∀ {H1 : Hp}, Ex H H1 → Ev (SlX.tPropSl T.Ratio.C (sp_Ratio_top T.Ratio.C) E0 (tVar 0)) [some (.ref a)] H1 (.int p) := fun e H2 e2 Q' q' => ev_var rfl H2 (Ex.refl H2) _ fun H3 e3 => ⟨a, da, _, rfl, slt_ex ((e.trans e2).trans e3) hs, a, p, q, rfl, rat_ex ((e.trans e2).trans e3) ha, fun H4 e4 => q' H4 (e3.trans e4)⟩
  have bot : ∀ {H1 : Hp}, Ex H H1 → Ev (SlX.tPropSl T.Ratio.C (sp_Ratio_bottom T.Ratio.C) E0 (tVar 0)) [some (.ref a)] H1 (.int q) := fun e H2 e2 Q' q' => ev_var rfl H2 (Ex.refl H2) _ fun H3 e3 => ⟨a, da, _, rfl, slt_ex ((e.trans e2).trans e3) hs, a, p, q, rfl, rat_ex ((e.trans e2).trans e3) ha, fun H4 e4 => q' H4 (e3.trans e4)⟩
  refine q_when (et_or (et_not (et_B (ev_isSl (ev_var rfl) ev_c hs T.Ratio.sc T.Ratio.si T.ratKit))) fun _ => et_test (ev_op (bot (Ex.refl H)) ev_c rv_I0)) (fun hb H1 e1 => ?_) fun hb H1 e1 => ?_
  · refine s_ret ev_c fun H2 e2 => ?_
    have k' := k H2 (e1.trans e2)
    unfold isSize at k'
    rw [show decide (60 < q) = true by simpa using hb] at k'
    exact k'
  · refine s_ret (ev_chain ev_c (top e1) rv_I0 (fun _ => ev_op ev_c (bot e1) (rv_I (.inl (by decide)))) fun _ => rv_I0) fun H2 e2 => ?_
    have k' := k H2 (e1.trans e2)
    unfold isSize at k'
    rw [show decide (60 < q) = false by simpa using hb] at k'
    exact k'
theorem sc_is_size : FnScope ["value"] ["value"] (defScope s_is_size) := ⟨rfl, rfl, rfl, by decide +kernel, rfl, by decide +kernel, by decide +kernel⟩
theorem d_is_size {P : Program} {w : World} {K : PySem.W.Frag} {mg : Str → Option Value} {base : Heap} (T : Txt K mg) {f : Addr} {cdv : Value} {A : Around} {outer : List Env} {s : Shared} {H : Hp} {E : XK} (hr : Room 2 (A.deeper (envOfC "is_size" (defScope s_is_size) s.heap.objs.size f cdv))) :
    PSs (cxOf CX0 P w K mg base ["value"] "is_size" (defScope s_is_size) f cdv A outer s H E).nox (defBody s_is_size) (t_is_size K T) := by
  have hu := hu_of hr
  exact (pss_cons (ps_if (PW.pt (pw_or (pt_not (pt_val (pe_callB (SlX.call_isiSl (.ref T.Ratio.C)) (by rfl) T.b_isinstance (by decide +kernel) (pa_cons (pv 0) (pa_cons (pe_glob rfl T.Ratio.g rfl rfl) pa_nil))))) (pw_or1 (pt_cmpR op_gt (SlX.pe_propSl (pv 0) T.Ratio.sc T.Ratio_bottom.at_ T.Ratio_bottom.get T.Ratio_bottom.tk T.Ratio_bottom.rc (r_Ratio_bottom T) (hr.mono (by decide)) (fun _ _ _ _ h => h)) (pe_k T.k_MAX_BOTTOM) (nomark _))))) (pss_one (ps_ret pe_bl)) pss_nil)
      (pss_one (ps_ret (pe_chain op_le op_le pe_int (SlX.pe_propSl (pv 0) T.Ratio.sc T.Ratio_top.at_ T.Ratio_top.get T.Ratio_top.tk T.Ratio_top.rc (r_Ratio_top T) (hr.mono (by decide)) (fun _ _ _ _ h => h)) (pe_op op_mul (pe_k T.k_MAX_SIZE) (SlX.pe_propSl (pv 0) T.Ratio.sc T.Ratio_bottom.at_ T.Ratio_bottom.get T.Ratio_bottom.tk T.Ratio_bottom.rc (r_Ratio_bottom T) (hr.mono (by decide)) (fun _ _ _ _ h => h)))))))
theorem ok_is_size {P : Program} {w : World} {K : PySem.W.Frag} {mg : Str → Option Value} {base : Heap} (T : Txt K mg) : FnOk P w K mg base CX0 3 T.is_size.f T.is_size.fd ["value"] (sp_is_size T) :=
  ok0 T.is_size.F sc_is_size len_is_size fun cdv A outer s H vs Q E hr h => ⟨t_is_size K T, d_is_size T hr, pure_is_size T h⟩
theorem cl_is_size {P : Program} {w : World} {K : PySem.W.Frag} {mg : Str → Option Value} {base : Heap} (T : Txt K mg) : Cl P w K mg base 3 "is_size" (sp_is_size T) := cl_of T.is_size (ok_is_size T) fun _ _ _ _ _ _ us hl => match us, hl with | [_], _ => rfl

end K08

namespace K08
open PySem PySem.Spec PyProof.Rows L2 Evl
/-! ### columns_of -/
def t_columns_of (K : PySem.W.Frag) : TS :=
  (tSeq (tAsg tDNewK (gName 1))
    (tSeq (tLock (tFor (iVals (tVar 0)) (gName 2)
    (tDrop (tBM K "dict" rUpdD (tVar 1) (tCons (tDc (iTup K (tVar 2)) (gName 3) tYes (tVar 3) (tC (.bl true)) [3]) tNil)))))
    (tRet (tCB (rTupOf K) (tCons (tCB rSortedD (tCons (tVar 1) tNil)) tNil)))))
def sp_columns_of : Sp := fun vs H Q _ => ∃ (d : Addr) (l : List (Str × V)) (tb : Tabs0), vs = [.ref d] ∧ H d = some (.dK (kS l)) ∧ RelR tupR H l tb ∧ (∀ e ∈ tb, e.2.Nodup) ∧ (tb.flatMap (·.2)).length < 64 ∧ ∀ p H', H p = none → Ex H H' → H' p = some (.tup ((colsOf tb).map V.str)) → Q (.ref p) H'
theorem len_columns_of : ∀ vs H Q E, sp_columns_of vs H Q E → vs.length = 1 := fun vs H Q E ⟨_, _, _, e, _⟩ => by rw [e]; rfl
def strOf : V → Str
  | .str y => y
  | _ => Str.empty
theorem cv_str {l : List Str} : (l.map V.str).map strOf = l := by
  rw [List.map_map]
  conv => rhs; rw [← List.map_id l]
  rfl
theorem take_flat {α β : Type} {f : α → List β} {l : List α} {i : Nat} {e : α} (h : l[i]? = some e) : (l.take (i + 1)).flatMap f = (l.take i).flatMap f ++ f e := by
  rw [List.take_succ, h, List.flatMap_append]
  simp
theorem flat_take_le {α β : Type} (f : α → List β) (l : List α) (i : Nat) : ((l.take i).flatMap f).length ≤ (l.flatMap f).length := by
  conv => rhs; rw [← List.take_append_drop i l, List.flatMap_append, List.length_append]
  omega
theorem pure_columns_of {K : PySem.W.Frag} {vs : List V} {H : Hp} {Q : VK} {E : XK} (h : sp_columns_of vs H Q E) : t_columns_of K { nx := fun _ H' => Q .non H', rt := Q } (start ["tables", "found", "columns", "column"] vs) H := by
  obtain ⟨d, l, tb, rfl, hd, hr, hnd, hz, k⟩ := h
  refine q_asgD ed_new fun f H1 hf e1 hf1 => ?_
  have hd1 := e1 _ _ hd
  have hfd : f ≠ d := fun z => by subst z; rw [hd] at hf; cases hf
  refine ⟨d, _, hd1, trivial, fun od => ?_⟩
  have hr1 : RelR tupR (upd H1 d (.frz od (.dK (kS l)))) l tb := (hr.mono (tupR_ex e1)).mono (tupR_upd hd1 fun xs z => nomatch z)
  refine s_forVals (o := od) (ev_var rfl) upd_same (fun i σ' H' => ∃ (x : Option V) (fl : List (Str × V)), σ' = [some (.ref d), some (.ref f), x, none] ∧ H' d = some (.frz od (.dK (kS l))) ∧ Ex (del H d) H' ∧ RelR tupR H' l tb ∧ H' f = some (.dK (kS fl)) ∧ (fl.map (·.1)).Nodup ∧ (∀ y, y ∈ fl.map (·.1) ↔ y ∈ (tb.take i).flatMap (·.2)) ∧ fl.length ≤ ((tb.take i).flatMap (·.2)).length)
    (fun H2 e2 => ⟨none, [], rfl, e2 _ _ upd_same, fun a o ha => e2 _ _ ?_, hr1.mono (tupR_ex e2), e2 _ _ (by rw [upd_ne hfd]; exact hf1), List.nodup_nil, fun y => by simp, by simp⟩) (fun i σ' H' _ p => by obtain ⟨_, _, _, p, _⟩ := p; exact p) (fun i e σ' H' hi p => ?_) (fun σ' H' p => ?_)
  · by_cases ha' : a = d
    · subst ha'; rw [del_same] at ha; cases ha
    · rw [del_ne ha'] at ha
      rw [upd_ne ha']
      exact e1 _ _ ha
  · obtain ⟨x, fl, rfl, p1, p2, p3, p4, p5, p6, p7⟩ := p
    obtain ⟨b, hb, hk, t, ht, htup⟩ := p3.at hi
    have hlen := flat_take_le (·.2) tb (i + 1)
    rw [take_flat hb, List.length_append] at hlen
    have htm : b ∈ tb := List.mem_of_getElem? hb
    rw [ht]
    refine s_updD (b := (b.2.map V.str).map fun v => (strOf v, V.bl true)) (ev_var rfl) p4 (ed_dc strOf (fun _ => .bl true) (src_tup (ev_var rfl) (SqT.of htup)) (by rw [List.length_map]; omega) (by rw [cv_str]; exact hnd b htm) (fun _ => rfl) (fun v H3 e3 hv => ?_) fun v H3 e3 hv => ev_c) p5 (by simp only [List.length_map]; omega) fun c H3 e3 c1 c2 c3 => ?_
    · obtain ⟨y, _, rfl⟩ := List.mem_map.mp hv
      exact ev_var rfl
    · have hfn : H' f = some (.dK (kS fl)) := p4
      refine ⟨some (.ref t), c, rfl, ?_, ?_, ?_, upd_same, c1, fun y => ?_, ?_⟩
      · rw [upd_ne (fun z => hfd z.symm)]
        exact e3 _ _ p1
      · exact (p2.trans e3).mut (by rw [del_ne hfd]; exact hf)
      · exact (p3.mono (tupR_ex e3)).mono (tupR_upd (e3 _ _ p4) fun xs z => nomatch z)
      · rw [c2, p6, take_flat hb, List.mem_append, List.map_map]
        have : List.map ((fun x : Str × V => x.1) ∘ fun v => (strOf v, V.bl true)) (b.2.map V.str) = b.2 := cv_str
        rw [this]
      · rw [take_flat hb, List.length_append]
        simp only [List.length_map] at c3
        omega
  · obtain ⟨x, fl, rfl, p1, p2, p3, p4, p5, p6, p7⟩ := p
    rw [hr.len, List.take_length] at p6 p7
    refine ⟨p1, ?_⟩
    have hfd' : f ≠ d := hfd
    have h4 : upd H' d (.dK (kS l)) f = some (.dK (kS fl)) := by rw [upd_ne hfd']; exact p4
    have hE : Ex H (upd H' d (.dK (kS l))) := fun a o ha => by
      by_cases had : a = d
      · subst had
        rw [upd_same, ← hd, ha]
      · rw [upd_ne had]
        exact p2 a o (by rw [del_ne had]; exact ha)
    refine s_retU (eu_tupN (el_sortedK (ev_var rfl) (.inl h4) p5 (by omega))) fun p H4 hp e4 hx => ?_
    refine k p H4 (fresh_back hE hp) (hE.trans e4) ?_
    rw [hx]
    congr 3
    exact setSort_eq p6
theorem sc_columns_of : FnScope ["tables", "found", "columns", "column"] ["tables"] (defScope s_columns_of) := ⟨rfl, rfl, rfl, by decide +kernel, rfl, by decide +kernel, by decide +kernel⟩
theorem d_columns_of {P : Program} {w : World} {K : PySem.W.Frag} {mg : Str → Option Value} {base : Heap} (T : Txt K mg) {f : Addr} {cdv : Value} {A : Around} {outer : List Env} {s : Shared} {H : Hp} {E : XK} (hr : Room 1 (A.deeper (envOfC "columns_of" (defScope s_columns_of) s.heap.objs.size f cdv))) :
    PSs (cxOf CX0 P w K mg base ["tables", "found", "columns", "column"] "columns_of" (defScope s_columns_of) f cdv A outer s H E).nox (defBody s_columns_of) (t_columns_of K) := by
  have hu := hu_of hr
  exact (pss_cons (ps_asg pe_dnewK (pg_name (i := 1) sc_columns_of.nd rfl (Or.inl rfl)))
      (pss_cons (ps_lock (ps_for PassesOwn.never rfl (pi_values (pv 0)) (pg_name (i := 2) sc_columns_of.nd rfl (Or.inl rfl))
      (pss_one (ps_expr (pe_bm PySem.F.plainAttrs_dict PySem.F.slot_dict_update PySem.F.type_dict_update mt_updateD (pv 1) (pa_cons (pe_dc (own := [("column", 3)]) rfl sc_columns_of.nd (pi_tup (pv 2)) (blkOk_by (own := [("column", 3)]) (N := ["tables", "found", "columns", "column"]) (sc := defScope s_columns_of) (by decide +kernel)) (fun _ _ _ _ _ => (pg_name (i := 3) sc_columns_of.nd rfl (Or.inl rfl))) (fun _ _ _ _ _ => pts_nil) (fun _ _ _ _ _ => (pv 3)) (fun _ _ _ _ _ => pe_bl)) pa_nil))))))
      (pss_one (ps_ret (pe_callTy call_tuple_of (by rfl) T.b_tuple (by decide +kernel) (pa_cons (pe_callB (call_sortedD rfl) (by rfl) T.b_sorted (by decide +kernel) (pa_cons (pv 1) pa_nil)) pa_nil))))))
theorem ok_columns_of {P : Program} {w : World} {K : PySem.W.Frag} {mg : Str → Option Value} {base : Heap} (T : Txt K mg) : FnOk P w K mg base CX0 2 T.columns_of.f T.columns_of.fd ["tables"] (sp_columns_of) :=
  ok0 T.columns_of.F sc_columns_of len_columns_of fun cdv A outer s H vs Q E hr h => ⟨t_columns_of K, d_columns_of T hr, pure_columns_of h⟩
theorem cl_columns_of {P : Program} {w : World} {K : PySem.W.Frag} {mg : Str → Option Value} {base : Heap} (T : Txt K mg) : Cl P w K mg base 2 "columns_of" sp_columns_of := cl_of T.columns_of (ok_columns_of T) fun _ _ _ _ _ _ us hl => match us, hl with | [_], _ => rfl

end K08

namespace K08
open PySem PySem.Spec PyProof.Rows L2 Evl
/-! ### are_tables -/
def t_are_tables (K : PySem.W.Frag) : TS :=
  (tSeq (tIfS (tOr (tNot (tB (tCB (rIsi K) (tCons (tVar 0) (tCons (tC (.ty "dict")) tNil))))) (tNot (tTest (tChain rLeI rLeI (tC (.int 1)) (tCB rLenD (tCons (tVar 0) tNil)) (tC (.int 6)))))) (tRet (tC (.bl false))) tNext)
    (tSeq (tIfS (tNot (tB (tCB (rAll K) (tCons (tLockE (tLc (iKeys (tVar 0)) (gName 1) tYes (tAndV (tCl sp_is_name (tCons (tVar 1) tNil)) (tCl sp_are_columns (tCons (tDGet (tVar 0) (tVar 1)) tNil))) [1])) tNil)))) (tRet (tC (.bl false))) tNext)
    (tRet (tOp rLeI (tCB (rLenS K) (tCons (tCl sp_columns_of (tCons (tVar 0) tNil)) tNil)) (tC (.int 8))))))
theorem nt {b : Bool} (h : (!b) = true) : b = false := by cases b; rfl; cases h
theorem nf {b : Bool} (h : (!b) = false) : b = true := by cases b; cases h; rfl
/-- no text and no row of texts is long -/
def SmallT (tb : Tabs0) : Prop := tb.length ≤ 1000 ∧ ∀ e ∈ tb, e.1.length ≤ 1000 ∧ e.2.length ≤ 1000 ∧ ∀ z ∈ e.2, z.length ≤ 1000
def isTables (tb : Tabs0) : Bool := (decide (1 ≤ tb.length) && decide (tb.length ≤ 6)) && (tb.all (fun e => isName e.1 && areCols e.2) && decide ((colsOf tb).length ≤ 8))
def sp_are_tables : Sp := fun vs H Q _ => ∃ (d : Addr) (l : List (Str × V)) (tb : Tabs0), vs = [.ref d] ∧ H d = some (.dK (kS l)) ∧ RelR tupR H l tb ∧ (tb.map (·.1)).Nodup ∧ SmallT tb ∧ ∀ H', Ex H H' → Q (.bl (isTables tb)) H'
theorem len_are_tables : ∀ vs H Q E, sp_are_tables vs H Q E → vs.length = 1 := fun vs H Q E ⟨_, _, _, e, _⟩ => by rw [e]; rfl
theorem spv_are_columns {H : Hp} {a : Addr} {l : List Str} (h : H a = some (.tup (l.map V.str))) (h1 : l.length ≤ 40000) (h2 : ∀ z ∈ l, z.length ≤ 40000) : SpV sp_are_columns [.ref a] H (.bl (areCols l)) := fun H1 e Q q E => ⟨a, l, rfl, e _ _ h, h1, h2, q⟩
/-- the columns of a name -/
def colOf (tb : Tabs0) (z : Str) : List Str := (tb.lookup z).getD []
theorem colOf_mem {tb : Tabs0} {e : Str × List Str} (hn : (tb.map (·.1)).Nodup) (h : e ∈ tb) : colOf tb e.1 = e.2 := by
  unfold colOf
  rw [mem_lookup (v := e.2) hn h]
  rfl
theorem all_cols {tb : Tabs0} (hn : (tb.map (·.1)).Nodup) (f : Str → List Str → Bool) : (tb.all fun e => f e.1 e.2) = ((tb.map (·.1)).map fun z => f z (colOf tb z)).all id := by
  rw [List.all_map, List.all_map]
  apply Bool.eq_iff_iff.mpr
  rw [List.all_eq_true, List.all_eq_true]
  constructor
  · intro h e he
    show f e.1 (colOf tb e.1) = true
    rw [colOf_mem hn he]
    exact h e he
  · intro h e he
    have := h e he
    change f e.1 (colOf tb e.1) = true at this
    rw [colOf_mem hn he] at this
    exact this
theorem flat_len (n : Nat) : ∀ {tb : Tabs0}, (∀ e ∈ tb, e.2.length ≤ n) → (tb.flatMap (·.2)).length ≤ n * tb.length
  | [], _ => by simp
  | e :: r, h => by
    have h1 := h e List.mem_cons_self
    have h2 := flat_len n (tb := r) fun x hx => h x (List.mem_cons_of_mem _ hx)
    rw [List.flatMap_cons, List.length_append, List.length_cons, Nat.mul_succ]
    omega
theorem areCols_len {l : List Str} (h : areCols l = true) : Asc l ∧ 1 ≤ l.length ∧ l.length ≤ 6 ∧ l.all isName = true := by
  unfold areCols areNames at h
  simp only [Bool.and_eq_true, decide_eq_true_eq] at h
  exact ⟨asc_iff.mp h.1.2, h.2.1, h.2.2, h.1.1⟩
theorem pure_are_tables {K : PySem.W.Frag} {vs : List V} {H : Hp} {Q : VK} {E : XK} (h : sp_are_tables vs H Q E) : t_are_tables K { nx := fun _ H' => Q .non H', rt := Q } (start ["value", "name"] vs) H := by
  obtain ⟨d, l, tb, rfl, hd, hr, hn, ⟨hz, hs⟩, k⟩ := h
  have hlen := hr.len
  refine q_when (b := !(decide (1 ≤ tb.length) && decide (tb.length ≤ 6))) (et_is (et_or (et_not (et_B (ev_isi (ev_var rfl) ev_c (.ty _) (fun H1 e1 => .base (.dK (e1 _ _ hd))) (kit_ty (r := true) (by decide +kernel))))) fun _ =>
    et_not (et_test (ev_chain ev_c (ev_lenD (ev_var rfl) hd) rv_I0 (fun _ => ev_c) fun _ => rv_I0))) (by rw [hlen, show decide ((1 : Int) ≤ (tb.length : Int)) = decide (1 ≤ tb.length) from len_bl tb.length 1, show decide ((tb.length : Int) ≤ 6) = decide (tb.length ≤ 6) from len_bl 6 tb.length]; rfl)) (fun hb H1 e1 => ?_) (fun hb H1 e1 => ?_)
  · refine s_ret ev_c fun H2 e2 => ?_
    have k' := k H2 (e1.trans e2)
    unfold isTables at k'
    rw [show (decide (1 ≤ tb.length) && decide (tb.length ≤ 6)) = false from nt hb] at k'
    exact k'
  have hb1 : (decide (1 ≤ tb.length) && decide (tb.length ≤ 6)) = true := nf hb
  have h6 : tb.length ≤ 6 := by
    simp only [Bool.and_eq_true, decide_eq_true_eq] at hb1
    exact hb1.2
  have hd1 := e1 _ _ hd
  have hr1 := hr.mono (tupR_ex e1)
  refine q_when (b := !(tb.all fun e => isName e.1 && areCols e.2)) (et_is (et_not (et_B (ev_allN (bs := (tb.map (·.1)).map fun z => isName z && areCols (colOf tb z)) (el_lock hd1 trivial fun od => ?_)))) (by rw [all_cols hn fun z c => isName z && areCols c])) (fun hb H2 e2 => ?_) (fun hb H2 e2 => ?_)
  · have em : ((tb.map (·.1)).map fun z => isName z && areCols (colOf tb z)).map V.bl = (l.map fun e => V.str e.1).map fun v => V.bl (isName (strOf v) && areCols (colOf tb (strOf v))) := by
      rw [← hr.keys, List.map_map, List.map_map, List.map_map]
      rfl
    rw [em]
    refine el_map _ (src_keys (ev_var rfl) upd_same) (by rw [List.length_map]; omega) (fun _ => rfl) fun x H3 e3 hx => ?_
    obtain ⟨e, he, rfl⟩ := List.mem_map.mp hx
    have hr3 : RelR tupR H3 l tb := (hr1.mono (tupR_upd hd1 fun xs z => nomatch z)).mono (tupR_ex e3)
    obtain ⟨b, hb', hk, t, ht, htup⟩ := hr3.mem he
    have hl : l.lookup e.1 = some e.2 := mem_lookup (by rw [hr.keys]; exact hn) he
    obtain ⟨s1, s2, s3⟩ := hs b hb'
    have hc : colOf tb e.1 = b.2 := by rw [hk]; exact colOf_mem hn hb'
    refine ev_is (ev_andV (a := isName e.1) (b := areCols b.2) (ev_cl (ea_cons (ev_var rfl) ea_nil) (spv_is_name (by rw [hk]; omega))) fun _ => ?_) (by show V.bl _ = V.bl (isName e.1 && areCols (colOf tb e.1)); rw [hc])
    have hDS : DS H3 d l := .inr ⟨od, e3 _ _ upd_same⟩
    exact ev_cl (ea_cons (ev_dget (ev_var rfl) (ev_var rfl) hDS (by rw [hl, ht])) ea_nil) (spv_are_columns htup (by omega) fun z hz => by have := s3 z hz; omega)
  · refine s_ret ev_c fun H3 e3 => ?_
    have k' := k H3 ((e1.trans e2).trans e3)
    unfold isTables at k'
    rw [show (tb.all fun e => isName e.1 && areCols e.2) = false from nt hb, hb1] at k'
    exact k'
  · have hb2 : (tb.all fun e => isName e.1 && areCols e.2) = true := nf hb
    have hall : ∀ e ∈ tb, Asc e.2 ∧ e.2.length ≤ 6 := fun e he => by
      have := List.all_eq_true.mp hb2 e he
      rw [Bool.and_eq_true] at this
      have := areCols_len this.2
      exact ⟨this.1, this.2.2.1⟩
    have hfl := flat_len 6 fun e he => (hall e he).2
    refine s_ret (v := .bl (decide ((colsOf tb).length ≤ 8))) (ev_is (ev_op (ev_lenU (fun H3 e3 Q' q' => (ea_cons (ev_var rfl) ea_nil) H3 e3 _ fun H4 e4 => ⟨d, l, tb, rfl, e4 _ _ (e3 _ _ (e2 _ _ hd1)), hr1.mono (tupR_ex ((e2.trans e3).trans e4)), fun e he => asc_nodup (hall e he).1, by omega, fun p H5 hp e5 hx => q' p H5 (fresh_back e4 hp) (e4.trans e5) hx⟩)) ev_c rv_I0) ?_) fun H3 e3 => ?_
    · rw [List.length_map]
      exact congrArg V.bl (len_bl 8 (colsOf tb).length)
    · have k' := k H3 ((e1.trans e2).trans e3)
      unfold isTables at k'
      rw [hb1, hb2] at k'
      exact k'
theorem sc_are_tables : FnScope ["value", "name"] ["value"] (defScope s_are_tables) := ⟨rfl, rfl, rfl, by decide +kernel, rfl, by decide +kernel, by decide +kernel⟩
theorem d_are_tables {P : Program} {w : World} {K : PySem.W.Frag} {mg : Str → Option Value} {base : Heap} (T : Txt K mg) {f : Addr} {cdv : Value} {A : Around} {outer : List Env} {s : Shared} {H : Hp} {E : XK} (hr : Room 3 (A.deeper (envOfC "are_tables" (defScope s_are_tables) s.heap.objs.size f cdv))) :
    PSs (cxOf CX0 P w K mg base ["value", "name"] "are_tables" (defScope s_are_tables) f cdv A outer s H E).nox (defBody s_are_tables) (t_are_tables K) := by
  have hu := hu_of hr
  exact (pss_cons (ps_if (PW.pt (pw_or (pt_not (pt_val (pe_callB call_isi (by rfl) T.b_isinstance (by decide +kernel) (pa_cons (pv 0) (pa_cons (pe_ty T.b_dict) pa_nil))))) (pw_or1 (pt_not (pt_chain op_le op_le pe_int (pe_callB call_lenD (by rfl) T.b_len (by decide +kernel) (pa_cons (pv 0) pa_nil)) (pe_k T.k_MAX_TABLES)))))) (pss_one (ps_ret pe_bl)) pss_nil)
      (pss_cons (ps_if (pt_not (pt_val (pe_callB (cr_all rfl) (by rfl) T.b_all (by decide +kernel) (pa_cons (pe_lock (pe_lc (own := [("name", 1)]) rfl sc_are_tables.nd (pi_keys (pv 0)) (blkOk_by (own := [("name", 1)]) (N := ["value", "name"]) (sc := defScope s_are_tables) (by decide +kernel)) (fun _ _ _ _ _ => (pg_name (i := 1) sc_are_tables.nd rfl (Or.inl rfl))) (fun _ _ _ _ _ => pts_nil) (fun _ _ _ _ _ => (pe_and (pe_cl (cl_is_name T) hr (pa_cons (pv 1) pa_nil)) (pe_one (pe_cl (cl_are_columns T) hr (pa_cons (pe_dget hu (pv 0) (pv 1) (fun _ _ => rfl)) pa_nil))))))) pa_nil)))) (pss_one (ps_ret pe_bl)) pss_nil)
      (pss_one (ps_ret (pe_cmpR op_le (pe_callB call_len_seq (by rfl) T.b_len (by decide +kernel) (pa_cons (pe_cl (cl_columns_of T) hr (pa_cons (pv 0) pa_nil)) pa_nil)) (pe_k T.k_MAX_COLUMNS) (nomark _))))))
theorem ok_are_tables {P : Program} {w : World} {K : PySem.W.Frag} {mg : Str → Option Value} {base : Heap} (T : Txt K mg) : FnOk P w K mg base CX0 4 T.are_tables.f T.are_tables.fd ["value"] (sp_are_tables) :=
  ok0 T.are_tables.F sc_are_tables len_are_tables fun cdv A outer s H vs Q E hr h => ⟨t_are_tables K, d_are_tables T hr, pure_are_tables h⟩
theorem cl_are_tables {P : Program} {w : World} {K : PySem.W.Frag} {mg : Str → Option Value} {base : Heap} (T : Txt K mg) : Cl P w K mg base 4 "are_tables" sp_are_tables := cl_of T.are_tables (ok_are_tables T) fun _ _ _ _ _ _ us hl => match us, hl with | [_], _ => rfl

end K08

namespace K08
open PySem PySem.Spec PyProof.Rows L2 Evl
/-! ### are_parts -/
def t_are_parts (K : PySem.W.Frag) {mg : Str → Option Value} (T : Txt K mg) : TS :=
  (tSeq (tIfS (tOr (tNot (tB (tCl sp_are_tables (tCons (tVar 0) tNil)))) (tOr (tNot (tB (tCl sp_are_names (tCons (tVar 1) tNil)))) (tNot (tB (tCB (rIsi K) (tCons (tVar 2) (tCons (tC (.ty "dict")) tNil))))))) (tRet (tC (.bl false))) tNext)
    (tSeq (tAsg (tCl sp_columns_of (tCons (tVar 0) tNil)) (gName 3))
    (tSeq (tIfS (tNot (tB (tCB (rAll K) (tCons (tLc (iTup K (tVar 1)) (gName 4) tYes (tOp (rIn K false) (tVar 4) (tVar 3)) [4]) tNil)))) (tRet (tC (.bl false))) tNext)
    (tRet (tCB (rAll K) (tCons (tLockE (tLc (iKeys (tVar 2)) (gName 5) tYes (tAndV (tDIn (tVar 5) (tVar 0)) (tCl (sp_is_size T) (tCons (tDGet (tVar 2) (tVar 5)) tNil))) [5])) tNil))))))
abbrev Sizs0 := List (Str × (Int × Int))
def isParts (tb : Tabs0) (gr : List Str) (sz : Sizs0) : Bool := (isTables tb && areNames gr) && ((gr.all fun c => decide (c ∈ colsOf tb)) && sz.all fun e => (tb.lookup e.1).isSome && isSize e.2)
def sp_are_parts {K : PySem.W.Frag} {mg : Str → Option Value} (T : Txt K mg) : Sp := fun vs H Q _ => ∃ (d g s : Addr) (l l2 : List (Str × V)) (tb : Tabs0) (gr : List Str) (sz : Sizs0), vs = [.ref d, .ref g, .ref s] ∧ H d = some (.dK (kS l)) ∧ RelR tupR H l tb ∧ (tb.map (·.1)).Nodup ∧ SmallT tb ∧
  H g = some (.tup (gr.map V.str)) ∧ gr.length ≤ 1000 ∧ (∀ z ∈ gr, z.length ≤ 1000) ∧ H s = some (.dK (kS l2)) ∧ RelR (ratR T.Ratio.C) H l2 sz ∧ (sz.map (·.1)).Nodup ∧ sz.length ≤ 1000 ∧ ∀ H', Ex H H' → Q (.bl (isParts tb gr sz)) H'
theorem len_are_parts {K : PySem.W.Frag} {mg : Str → Option Value} {T : Txt K mg} : ∀ vs H Q E, sp_are_parts T vs H Q E → vs.length = 3 := fun vs H Q E ⟨_, _, _, _, _, _, _, _, e, _⟩ => by rw [e]; rfl
theorem spv_are_tables {H : Hp} {d : Addr} {l : List (Str × V)} {tb : Tabs0} (hd : H d = some (.dK (kS l))) (hr : RelR tupR H l tb) (hn : (tb.map (·.1)).Nodup) (hs : SmallT tb) : SpV sp_are_tables [.ref d] H (.bl (isTables tb)) := fun H1 e Q q E => ⟨d, l, tb, rfl, e _ _ hd, hr.mono (tupR_ex e), hn, hs, q⟩
theorem spv_is_size {K : PySem.W.Frag} {mg : Str → Option Value} (T : Txt K mg) {H : Hp} {a : Addr} {p q : Int} (h : RatA T.Ratio.C H a p q) : SpV (sp_is_size T) [.ref a] H (.bl (isSize (p, q))) := fun H1 e Q k E => ⟨a, p, q, rfl, rat_ex e h, k⟩
/-- what a row of tables must be that columns_of may be asked -/
theorem isTables_ok {tb : Tabs0} (h : isTables tb = true) : (∀ e ∈ tb, e.2.Nodup) ∧ (tb.flatMap (·.2)).length < 64 := by
  unfold isTables at h
  simp only [Bool.and_eq_true, decide_eq_true_eq] at h
  have hall : ∀ e ∈ tb, Asc e.2 ∧ e.2.length ≤ 6 := fun e he => by
    have := List.all_eq_true.mp h.2.1 e he
    rw [Bool.and_eq_true] at this
    have := areCols_len this.2
    exact ⟨this.1, this.2.2.1⟩
  have := flat_len 6 fun e he => (hall e he).2
  exact ⟨fun e he => asc_nodup (hall e he).1, by omega⟩
theorem eu_columns_of {H : Hp} {σ : L2.St} {ta : TE} {d : Addr} {l : List (Str × V)} {tb : Tabs0} (ha : Ev ta σ H (.ref d)) (hd : H d = some (.dK (kS l))) (hr : RelR tupR H l tb) (h : isTables tb = true) : EvU (tCl sp_columns_of (tCons ta tNil)) σ H ((colsOf tb).map V.str) := fun H3 e3 Q' q' =>
  (ea_cons ha ea_nil) H3 e3 _ fun H4 e4 => ⟨d, l, tb, rfl, e4 _ _ (e3 _ _ hd), hr.mono (tupR_ex (e3.trans e4)), (isTables_ok h).1, (isTables_ok h).2, fun p H5 hp e5 hx => q' p H5 (fresh_back e4 hp) (e4.trans e5) hx⟩
theorem pure_are_parts {K : PySem.W.Frag} {mg : Str → Option Value} (T : Txt K mg) {vs : List V} {H : Hp} {Q : VK} {E : XK} (h : sp_are_parts T vs H Q E) : t_are_parts K T { nx := fun _ H' => Q .non H', rt := Q } (start ["tables", "groups", "sizes", "columns", "column", "name"] vs) H := by
  obtain ⟨d, g, s, l, l2, tb, gr, sz, rfl, hd, hr, hn, hs, hg, hg1, hg2, hd2, hr2, hn2, hz2, k⟩ := h
  refine q_when (b := !(isTables tb && areNames gr)) (et_is (et_or (et_not (et_B (ev_cl (ea_cons (ev_var rfl) ea_nil) (spv_are_tables hd hr hn hs)))) fun _ => et_or (et_not (et_B (ev_cl (ea_cons (ev_var rfl) ea_nil) (spv_are_names hg (by omega) fun z hz => by have := hg2 z hz; omega)))) fun _ =>
    et_not (et_B (ev_isi (ev_var rfl) ev_c (.ty _) (fun H1 e1 => .base (.dK (e1 _ _ hd2))) (kit_ty (r := true) (by decide +kernel))))) (by cases isTables tb <;> cases areNames gr <;> rfl)) (fun hb H1 e1 => ?_) (fun hb H1 e1 => ?_)
  · refine s_ret ev_c fun H2 e2 => ?_
    have k' := k H2 (e1.trans e2)
    unfold isParts at k'
    rw [nt hb] at k'
    exact k'
  have hb1 := nf hb
  have hT : isTables tb = true := by rw [Bool.and_eq_true] at hb1; exact hb1.1
  refine q_asgU (eu_columns_of (ev_var rfl) (e1 _ _ hd) (hr.mono (tupR_ex e1)) hT) fun c H2 hc e2 hc2 => ?_
  have e12 := e1.trans e2
  refine q_when (b := !(gr.all fun z => decide (z ∈ colsOf tb))) (et_not (et_is (et_B (ev_allN (bs := gr.map fun z => decide (z ∈ colsOf tb)) ?_)) (by rw [List.all_map]; rfl))) (fun hb H3 e3 => ?_) (fun hb H3 e3 => ?_)
  · have em : (gr.map fun z => decide (z ∈ colsOf tb)).map V.bl = (gr.map V.str).map fun v => V.bl (decide (strOf v ∈ colsOf tb)) := by
      rw [List.map_map, List.map_map]
      rfl
    rw [em]
    refine el_map _ (src_tup (ev_var rfl) (SqT.of (e12 _ _ hg))) (by rw [List.length_map]; omega) (fun _ => rfl) fun x H3 e3 hx => ?_
    obtain ⟨y, hy, rfl⟩ := List.mem_map.mp hx
    refine ev_is (ev_op (ev_var rfl) (ev_var rfl) (rv_isT (SqT.of (e3 _ _ hc2)) rfl (flatV_strs _))) ?_
    rw [inV_strs]
    rfl
  · refine s_ret ev_c fun H4 e4 => ?_
    have k' := k H4 ((e12.trans e3).trans e4)
    unfold isParts at k'
    rw [hb1, nt hb] at k'
    exact k'
  have hb2 := nf hb
  have e13 := e12.trans e3
  refine s_ret (v := .bl (sz.all fun e => (tb.lookup e.1).isSome && isSize e.2)) (ev_is (ev_allN (bs := sz.map fun e => (tb.lookup e.1).isSome && isSize e.2) (el_lock (e13 _ _ hd2) trivial fun od => ?_)) (by rw [List.all_map]; rfl)) fun H4 e4 => ?_
  · have hr2' := hr2.mono (ratR_ex e13)
    have em : (sz.map fun e => (tb.lookup e.1).isSome && isSize e.2).map V.bl = (l2.map fun e => V.str e.1).map fun v => V.bl ((tb.lookup (strOf v)).isSome && isSize ((sz.lookup (strOf v)).getD (0, 0))) := by
      rw [List.map_map, List.map_map]
      have : ∀ (a : List (Str × V)) (b : Sizs0), RelR (ratR T.Ratio.C) H a b → (∀ e ∈ b, sz.lookup e.1 = some e.2) → b.map (V.bl ∘ fun e => (tb.lookup e.1).isSome && isSize e.2) = a.map ((fun v => V.bl ((tb.lookup (strOf v)).isSome && isSize ((sz.lookup (strOf v)).getD (0, 0)))) ∘ fun e => V.str e.1) := by
        intro a b hab
        unfold RelR at hab
        induction hab with
        | nil => intro _; rfl
        | @cons x y r t hxy _ ih =>
          intro hlk
          rw [List.map_cons, List.map_cons, ih fun e he => hlk e (List.mem_cons_of_mem _ he)]
          congr 1
          show V.bl _ = V.bl ((tb.lookup x.1).isSome && isSize ((sz.lookup x.1).getD (0, 0)))
          rw [hxy.1, hlk y List.mem_cons_self]
          rfl
      exact this l2 sz hr2 fun e he => mem_lookup hn2 he
    rw [em]
    refine el_map _ (src_keys (ev_var rfl) upd_same) (by rw [List.length_map, hr2.len]; omega) (fun _ => rfl) fun x H5 e5 hx => ?_
    obtain ⟨e, he, rfl⟩ := List.mem_map.mp hx
    have hr5 : RelR (ratR T.Ratio.C) H5 l2 sz := (hr2'.mono (ratR_upd (e13 _ _ hd2))).mono (ratR_ex e5)
    obtain ⟨b, hb', hk, a, ha, hrat⟩ := hr5.mem he
    have hl : l2.lookup e.1 = some e.2 := mem_lookup (by rw [hr2.keys]; exact hn2) he
    have hds : DS H5 d l := by
      have hdd : upd H3 s (.frz od (.dK (kS l2))) d = some (.dK (kS l)) ∨ ∃ o, upd H3 s (.frz od (.dK (kS l2))) d = some (.frz o (.dK (kS l))) := by
        by_cases hds : d = s
        · subst hds
          have : (HO.dK (kS l2)) = .dK (kS l) := by rw [hd] at hd2; exact (Option.some.inj hd2).symm
          rw [upd_same, this]
          exact .inr ⟨_, rfl⟩
        · rw [upd_ne hds]
          exact .inl (e13 _ _ hd)
      exact ex_rd e5 hdd
    refine ev_is (ev_andV (a := (tb.lookup b.1).isSome) (b := isSize b.2) (ev_is (ev_din (ev_var rfl) (ev_var rfl) hds) (by rw [hr.isSome, hk])) fun _ => ?_) (by show V.bl _ = V.bl ((tb.lookup e.1).isSome && isSize ((sz.lookup e.1).getD (0, 0))); rw [hk, mem_lookup hn2 (v := b.2) hb']; rfl)
    exact ev_cl (ea_cons (ev_dget (ev_var rfl) (ev_var rfl) (.inr ⟨od, e5 _ _ upd_same⟩) (by rw [hl, ha])) ea_nil) (spv_is_size T hrat)
  · have k' := k H4 (e13.trans e4)
    unfold isParts at k'
    rw [hb1, hb2] at k'
    exact k'
theorem sc_are_parts : FnScope ["tables", "groups", "sizes", "columns", "column", "name"] ["tables", "groups", "sizes"] (defScope s_are_parts) := ⟨rfl, rfl, rfl, by decide +kernel, rfl, by decide +kernel, by decide +kernel⟩
theorem d_are_parts {P : Program} {w : World} {K : PySem.W.Frag} {mg : Str → Option Value} {base : Heap} (T : Txt K mg) {f : Addr} {cdv : Value} {A : Around} {outer : List Env} {s : Shared} {H : Hp} {E : XK} (hr : Room 4 (A.deeper (envOfC "are_parts" (defScope s_are_parts) s.heap.objs.size f cdv))) :
    PSs (cxOf CX0 P w K mg base ["tables", "groups", "sizes", "columns", "column", "name"] "are_parts" (defScope s_are_parts) f cdv A outer s H E).nox (defBody s_are_parts) (t_are_parts K T) := by
  have hu := hu_of hr
  exact (pss_cons (ps_if (PW.pt (pw_or (pt_not (pt_val (pe_cl (cl_are_tables T) hr (pa_cons (pv 0) pa_nil)))) (pw_or (pt_not (pt_val (pe_cl (cl_are_names T) hr (pa_cons (pv 1) pa_nil)))) (pw_or1 (pt_not (pt_val (pe_callB call_isi (by rfl) T.b_isinstance (by decide +kernel) (pa_cons (pv 2) (pa_cons (pe_ty T.b_dict) pa_nil))))))))) (pss_one (ps_ret pe_bl)) pss_nil)
      (pss_cons (ps_asg (pe_cl (cl_columns_of T) hr (pa_cons (pv 0) pa_nil)) (pg_name (i := 3) sc_are_parts.nd rfl (Or.inr rfl)))
      (pss_cons (ps_if (pt_not (pt_val (pe_callB (cr_all rfl) (by rfl) T.b_all (by decide +kernel) (pa_cons (pe_lc (own := [("column", 4)]) rfl sc_are_parts.nd (pi_tup (pv 1)) (blkOk_by (own := [("column", 4)]) (N := ["tables", "groups", "sizes", "columns", "column", "name"]) (sc := defScope s_are_parts) (by decide +kernel)) (fun _ _ _ _ _ => (pg_name (i := 4) sc_are_parts.nd rfl (Or.inl rfl))) (fun _ _ _ _ _ => pts_nil) (fun _ _ _ _ _ => (pe_cmpR op_in_seq (pv 4) (pv 3) (by rfl)))) pa_nil)))) (pss_one (ps_ret pe_bl)) pss_nil)
      (pss_one (ps_ret (pe_callB (cr_all rfl) (by rfl) T.b_all (by decide +kernel) (pa_cons (pe_lock (pe_lc (own := [("name", 5)]) rfl sc_are_parts.nd (pi_keys (pv 2)) (blkOk_by (own := [("name", 5)]) (N := ["tables", "groups", "sizes", "columns", "column", "name"]) (sc := defScope s_are_parts) (by decide +kernel)) (fun _ _ _ _ _ => (pg_name (i := 5) sc_are_parts.nd rfl (Or.inl rfl))) (fun _ _ _ _ _ => pts_nil) (fun _ _ _ _ _ => (pe_and (pe_cmp (pc_din hu (pv 5) (pv 0))) (pe_one (pe_cl (cl_is_size T) hr (pa_cons (pe_dget hu (pv 2) (pv 5) (fun _ _ => rfl)) pa_nil))))))) pa_nil)))))))
theorem ok_are_parts {P : Program} {w : World} {K : PySem.W.Frag} {mg : Str → Option Value} {base : Heap} (T : Txt K mg) : FnOk P w K mg base CX0 5 T.are_parts.f T.are_parts.fd ["tables", "groups", "sizes"] (sp_are_parts T) :=
  ok0 T.are_parts.F sc_are_parts len_are_parts fun cdv A outer s H vs Q E hr h => ⟨t_are_parts K T, d_are_parts T hr, pure_are_parts T h⟩
theorem cl_are_parts {P : Program} {w : World} {K : PySem.W.Frag} {mg : Str → Option Value} {base : Heap} (T : Txt K mg) : Cl P w K mg base 5 "are_parts" (sp_are_parts T) := cl_of T.are_parts (ok_are_parts T) fun _ _ _ _ _ _ us hl => match us, hl with | [_, _, _], _ => rfl

end K08

namespace K08
open PySem PySem.Spec PyProof.Rows L2 Evl
/-! ### == of rows of texts -/
theorem dpAll_strs {K : PySem.W.Frag} {H : Hp} : ∀ l : List Str, DpAll K H (l.map V.str) (l.map PyData.str)
  | [] => .nil
  | x :: r => .cons (.str x) (dpAll_strs r)
theorem lay_strs : ∀ {l : List Str}, (∀ z ∈ l, PyData.strOk z = true) → PyData.canLayAll0 (l.map PyData.str) = true
  | [], _ => by simp [PyData.canLayAll0]
  | x :: r, h => by simp [PyData.canLayAll0, PyData.canLay0, h x List.mem_cons_self, lay_strs fun z hz => h z (List.mem_cons_of_mem _ hz)]
theorem depth_strs : ∀ l : List Str, PyData.depthAll (l.map PyData.str) ≤ 1
  | [] => by simp [PyData.depthAll]
  | x :: r => by
    have := depth_strs r
    simp only [List.map_cons, PyData.depthAll, PyData.depth]
    omega
theorem shaped_tup {l : List Str} (h : ∀ z ∈ l, PyData.strOk z = true) : SeqAt.shaped (.tuple (l.map PyData.str)) = true := by
  have h1 := depth_strs l
  have h2 : PyData.depth (.tuple (l.map PyData.str)) ≤ 64 := by
    simp only [PyData.depth]
    omega
  show (PyData.canLay0 (.tuple (l.map PyData.str)) && decide (PyData.depth (.tuple (l.map PyData.str)) ≤ 64)) = true
  rw [Bool.and_eq_true]
  exact ⟨by simp only [PyData.canLay0]; exact lay_strs h, decide_eq_true h2⟩
theorem shaped_lst {l : List Str} (h : ∀ z ∈ l, PyData.strOk z = true) : SeqAt.shaped (.list (l.map PyData.str)) = true := by
  have h1 := depth_strs l
  have h2 : PyData.depth (.list (l.map PyData.str)) ≤ 64 := by
    simp only [PyData.depth]
    omega
  show (PyData.canLay0 (.list (l.map PyData.str)) && decide (PyData.depth (.list (l.map PyData.str)) ≤ 64)) = true
  rw [Bool.and_eq_true]
  exact ⟨by simp only [PyData.canLay0]; exact lay_strs h, decide_eq_true h2⟩
theorem eqvAll_strs : ∀ a b : List Str, PyData.eqvAll (a.map PyData.str) (b.map PyData.str) = decide (a = b)
  | [], [] => by simp [PyData.eqvAll]
  | [], _ :: _ => by simp [PyData.eqvAll]
  | _ :: _, [] => by simp [PyData.eqvAll]
  | x :: r, y :: s => by
    rw [List.map_cons, List.map_cons, PyData.eqvAll, eqvAll_strs r s, PyData.eqv]
    by_cases h : x = y
    · subst h
      by_cases h2 : r = s
      · subst h2; simp
      · simp [h2]
    · rw [beq_false_of_ne h]
      simp [h]
section
variable {K : PySem.W.Frag} {σ : L2.St} {H : Hp} {ta tb tv : TE} {a : Addr} {l m : List Str} {f : Str} {C dx : Addr} {fs : List (Str × V)} {v : V} {D : Ends} {tz : TS}
theorem ev_eqTup (ha : Ev ta σ H (.ref a)) (hx : SqT K H a (l.map V.str)) (hb : EvU tb σ H (m.map V.str)) (h1 : ∀ z ∈ l, PyData.strOk z = true) (h2 : ∀ z ∈ m, PyData.strOk z = true) : Ev (tOp (rEqD K) ta tb) σ H (.bl (decide (l = m))) := fun H1 e Q q =>
  ha H1 e _ fun H2 e2 => hb H2 (e.trans e2) _ fun p H3 _ e3 hp => ⟨.tuple (l.map PyData.str), .tuple (m.map PyData.str), .tup (ex_t ((e.trans e2).trans e3) hx) (dpAll_strs l), .tup (SqT.of hp) (dpAll_strs m), shaped_tup h1, shaped_tup h2, by
    rw [show PyData.eqv (.tuple (l.map PyData.str)) (.tuple (m.map PyData.str)) = decide (l = m) by rw [PyData.eqv]; exact eqvAll_strs l m]
    exact q H3 (e2.trans e3)⟩
theorem ev_fld (ha : Ev ta σ H (.ref a)) (hi : H a = some (.ins C dx fs)) (c : Cls K C) (n : NoAttr K C f) (hv : fs.lookup f = some v) : Ev (tFld K ta f) σ H v := fun H1 e Q q =>
  ha H1 e _ fun H2 e2 => ⟨a, C, dx, fs, v, rfl, e2 _ _ (e _ _ hi), c, n, hv, q H2 e2⟩
theorem q_fld (hv : Ev tv σ H v) (ha : Ev ta σ H (.ref a)) (hi : H a = some (.ins C dx fs)) (c : Cls K C) (n : NoAttr K C f) (hl : fs.length < 1000) (k : ∀ H1, Ex H H1 → tz D σ (upd H1 a (.ins C dx (putF f v fs)))) : tSeq (sFld K ta tv f) tz D σ H :=
  hv H (Ex.refl H) _ fun H1 e1 => ha H1 e1 _ fun H2 e2 => ⟨a, C, dx, fs, rfl, e2 _ _ (e1 _ _ hi), c, n, hl, k H2 (e1.trans e2)⟩
theorem s_fld (hv : Ev tv σ H v) (ha : Ev ta σ H (.ref a)) (hi : H a = some (.ins C dx fs)) (c : Cls K C) (n : NoAttr K C f) (hl : fs.length < 1000) (k : ∀ H1, Ex H H1 → D.nx σ (upd H1 a (.ins C dx (putF f v fs)))) : sFld K ta tv f D σ H :=
  hv H (Ex.refl H) _ fun H1 e1 => ha H1 e1 _ fun H2 e2 => ⟨a, C, dx, fs, rfl, e2 _ _ (e1 _ _ hi), c, n, hl, k H2 (e1.trans e2)⟩
theorem q_fldD {kl : List (Str × V)} (hv : EvD tv σ H kl) (ha : Ev ta σ H (.ref a)) (hi : H a = some (.ins C dx fs)) (c : Cls K C) (n : NoAttr K C f) (hl : fs.length < 1000) (k : ∀ p H1, H p = none → Ex H H1 → H1 p = some (.dK (kS kl)) → tz D σ (upd H1 a (.ins C dx (putF f (.ref p) fs)))) : tSeq (sFld K ta tv f) tz D σ H :=
  hv H (Ex.refl H) _ fun p H1 hp e1 hx => ha H1 e1 _ fun H2 e2 => ⟨a, C, dx, fs, rfl, e2 _ _ (e1 _ _ hi), c, n, hl, k p H2 hp (e1.trans e2) (e2 _ _ hx)⟩
end
/-! ### QuestionLines -/
structure QS where
  tb : Tabs0
  sz : Sizs0
  gr : Option (List Str)
def grR (H : Hp) (v : V) : Option (List Str) → Prop
  | none => v = .non
  | some g => tupR H v g
theorem grR_ex {H H' : Hp} (e : Ex H H') {v : V} : ∀ {o : Option (List Str)}, grR H v o → grR H' v o
  | none, h => h
  | some g, h => tupR_ex e v g h
theorem grR_upd {H : Hp} {d : Addr} {u o : HO} (hd : H d = some o) (ho : ∀ xs, o ≠ .tup xs) {v : V} : ∀ {x : Option (List Str)}, grR H v x → grR (upd H d u) v x
  | none, h => h
  | some g, h => tupR_upd hd ho v g h
abbrev qlF (td sd : Addr) (gv : V) : List (Str × V) := [("own_tables", .ref td), ("own_sizes", .ref sd), ("own_groups", gv)]
/-- the object at a tells s; its two dicts stand at td and sd -/
def QlA {K : PySem.W.Frag} {mg : Str → Option Value} (T : Txt K mg) (H : Hp) (a td sd : Addr) (s : QS) : Prop := ∃ (dx : Addr) (gv : V) (l l2 : List (Str × V)), H a = some (.ins T.qlC dx (qlF td sd gv)) ∧ H td = some (.dK (kS l)) ∧ RelR tupR H l s.tb ∧
  H sd = some (.dK (kS l2)) ∧ RelR (ratR T.Ratio.C) H l2 s.sz ∧ td ≠ sd ∧ grR H gv s.gr
theorem QlA.ex {K : PySem.W.Frag} {mg : Str → Option Value} {T : Txt K mg} {H H' : Hp} {a td sd : Addr} {s : QS} (e : Ex H H') (h : QlA T H a td sd s) : QlA T H' a td sd s := by
  obtain ⟨dx, gv, l, l2, h1, h2, h3, h4, h5, h6, h7⟩ := h
  exact ⟨dx, gv, l, l2, e _ _ h1, e _ _ h2, h3.mono (tupR_ex e), e _ _ h4, h5.mono (ratR_ex e), h6, grR_ex e h7⟩
def putTable (s : QS) (name : Str) (cols : List Str) : Option QS := if isName name && (!decide (cols = []) && (areNames cols && !(s.tb.lookup name).isSome)) then some { s with tb := s.tb ++ [(name, cols)] } else none
def putSize (s : QS) (name : Str) (z : Option (Int × Int)) : Option QS := match z with
  | none => none
  | some z => if isName name && !(s.sz.lookup name).isSome then some { s with sz := s.sz ++ [(name, z)] } else none
def putGroups (s : QS) (cols : List Str) : Option QS := if !decide (cols = []) && (areNames cols && s.gr.isNone) then some { s with gr := some cols } else none
/-- what a step may go on with -/
def StepQ {K : PySem.W.Frag} {mg : Str → Option Value} (T : Txt K mg) (H0 : Hp) (a td sd : Addr) (s : QS) (o : Option QS) (Q : VK) : Prop := ∀ H', Ex H0 H' → (∀ s', o = some s' → QlA T H' a td sd s' → Q (.bl true) H') ∧ (o = none → QlA T H' a td sd s → Q (.bl false) H')
/-- what is known ahead of a step: H0 knows nothing of the object -/
structure Ahead (H0 H : Hp) (a td sd : Addr) : Prop where
  e : Ex H0 H
  a0 : H0 a = none
  t0 : H0 td = none
  s0 : H0 sd = none
def SmallW (l : List Str) : Prop := l.length ≤ 1000 ∧ ∀ z ∈ l, z.length ≤ 1000 ∧ PyData.strOk z = true

/-! ### QuestionLines.__init__ -/
def t_QuestionLines_init (K : PySem.W.Frag) : TS :=
  (tSeq (sFld K (tVar 0) tDNewK "own_tables")
    (tSeq (sFld K (tVar 0) tDNewK "own_sizes")
    (sFld K (tVar 0) (tC .non) "own_groups")))
def sp_QuestionLines_init {K : PySem.W.Frag} {mg : Str → Option Value} (T : Txt K mg) : Sp := fun vs H Q _ => ∃ (x dx : Addr) (H0 : Hp), vs = [.ref x] ∧ H x = some (.ins T.qlC dx []) ∧ Ex H0 H ∧ H0 x = none ∧ ∀ H' td sd, Ex H0 H' → H0 td = none → H0 sd = none → QlA T H' x td sd ⟨[], [], none⟩ → Q .non H'
theorem len_QuestionLines_init {K : PySem.W.Frag} {mg : Str → Option Value} {T : Txt K mg} : ∀ vs H Q E, sp_QuestionLines_init T vs H Q E → vs.length = 1 := fun vs H Q E ⟨_, _, _, e, _⟩ => by rw [e]; rfl
theorem pure_QuestionLines_init {K : PySem.W.Frag} {mg : Str → Option Value} (T : Txt K mg) {vs : List V} {H : Hp} {Q : VK} {E : XK} (h : sp_QuestionLines_init T vs H Q E) : t_QuestionLines_init K { nx := fun _ H' => Q .non H', rt := Q } (start ["self"] vs) H := by
  obtain ⟨x, dx, H0, rfl, hx, e0, x0, k⟩ := h
  refine q_fldD ed_new (ev_var rfl) hx T.qlCls T.qlT (by decide) fun td H1 h1 e1 hd1 => ?_
  have ne1 : td ≠ x := fun z => by subst z; rw [hx] at h1; cases h1
  refine q_fldD ed_new (ev_var rfl) upd_same T.qlCls T.qlS (Nat.le_add_left 2 998) fun sd H2 h2 e2 hd2 => ?_
  have ne2 : sd ≠ x := fun z => by subst z; rw [upd_same] at h2; cases h2
  rw [upd_ne ne2] at h2
  have ne3 : td ≠ sd := fun z => by subst z; rw [hd1] at h2; cases h2
  refine s_fld (v := .non) ev_c (ev_var rfl) upd_same T.qlCls T.qlP (Nat.le_add_left 3 997) fun H3 e3 => ?_
  have ea1 : Ex H0 (upd H1 x (.ins T.qlC dx (putF "own_tables" (.ref td) []))) := (e0.trans e1).mut x0
  have ea2 : Ex H0 (upd H2 x (.ins T.qlC dx (putF "own_sizes" (.ref sd) (putF "own_tables" (.ref td) [])))) := (ea1.trans e2).mut x0
  have ea3 : Ex H0 (upd H3 x (.ins T.qlC dx (putF "own_groups" .non (putF "own_sizes" (.ref sd) (putF "own_tables" (.ref td) []))))) := (ea2.trans e3).mut x0
  have t0 : H0 td = none := fresh_back e0 h1
  have s0 : H0 sd = none := by
    cases hh : H0 sd with
    | none => rfl
    | some o => have := (e0.trans e1) _ _ hh; rw [h2] at this; cases this
  refine k _ td sd ea3 t0 s0 ⟨dx, .non, [], [], upd_same, ?_, .nil, ?_, .nil, ne3, rfl⟩
  · rw [upd_ne ne1]
    refine e3 _ _ ?_
    rw [upd_ne ne1]
    refine e2 _ _ ?_
    rw [upd_ne ne1]
    exact hd1
  · rw [upd_ne ne2]
    refine e3 _ _ ?_
    rw [upd_ne ne2]
    exact hd2
theorem sc_QuestionLines_init : FnScope ["self"] ["self"] (defScope s_QuestionLines_init) := ⟨rfl, rfl, rfl, by decide +kernel, rfl, by decide +kernel, by decide +kernel⟩
theorem d_QuestionLines_init {P : Program} {w : World} {K : PySem.W.Frag} {mg : Str → Option Value} {base : Heap} (T : Txt K mg) {f : Addr} {cdv : Value} {A : Around} {outer : List Env} {s : Shared} {H : Hp} {E : XK} (hr : Room 0 (A.deeper (envOfC "QuestionLines.__init__" (defScope s_QuestionLines_init) s.heap.objs.size f cdv))) :
    PSs (cxOf CX0 P w K mg base ["self"] "QuestionLines.__init__" (defScope s_QuestionLines_init) f cdv A outer s H E).nox (defBody s_QuestionLines_init) (t_QuestionLines_init K) := by
  have hu := hu_of hr
  exact (pss_cons (ps_fld (pv 0) pe_dnewK rfl)
      (pss_cons (ps_fld (pv 0) pe_dnewK rfl)
      (pss_one (ps_fld (pv 0) pe_non rfl))))
theorem ok_QuestionLines_init {P : Program} {w : World} {K : PySem.W.Frag} {mg : Str → Option Value} {base : Heap} (T : Txt K mg) : FnOk P w K mg base CX0 1 T.QuestionLines_init.f T.QuestionLines_init.fd ["self"] (sp_QuestionLines_init T) :=
  ok0 T.QuestionLines_init.F sc_QuestionLines_init len_QuestionLines_init fun cdv A outer s H vs Q E hr h => ⟨t_QuestionLines_init K, d_QuestionLines_init T hr, pure_QuestionLines_init T h⟩
theorem b_QuestionLines_init {K : PySem.W.Frag} {mg : Str → Option Value} (T : Txt K mg) : Binds K T.QuestionLines_init.fd ["self"] [] := T.QuestionLines_init.F.bindsN fun _ _ _ _ _ _ us hl => match us, hl with | [_], _ => rfl
theorem r_QuestionLines_init {P : Program} {w : World} {K : PySem.W.Frag} {mg : Str → Option Value} {base : Heap} (T : Txt K mg) : FnR P w K mg base CX0 1 T.QuestionLines_init.f (sp_QuestionLines_init T) := fnr_of (ok_QuestionLines_init T) (T.QuestionLines_init.F.bindsN fun _ _ _ _ _ _ us hl => match us, hl with | [_], _ => rfl)

end K08

namespace K08
open PySem PySem.Spec PyProof.Rows L2 Evl
section
variable {K : PySem.W.Frag} {mg : Str → Option Value} {T : Txt K mg} {H0 H H1 : Hp} {a td sd c : Addr} {s : QS}
theorem Ahead.go (h : Ahead H0 H a td sd) (e : Ex H H1) : Ahead H0 H1 a td sd := ⟨h.e.trans e, h.a0, h.t0, h.s0⟩
theorem ql_ne {dx : Addr} {fs : List (Str × V)} {kvs : List (Key × V)} (h1 : H a = some (.ins T.qlC dx fs)) (h2 : H td = some (.dK kvs)) : a ≠ td := fun z => by subst z; rw [h1] at h2; cases h2
/-- a further table -/
theorem ql_putT {dx : Addr} {gv : V} {l l2 : List (Str × V)} {name : Str} {cols : List Str} (h1 : H a = some (.ins T.qlC dx (qlF td sd gv))) (h2 : H td = some (.dK (kS l))) (h3 : RelR tupR H l s.tb) (h4 : H sd = some (.dK (kS l2))) (h5 : RelR (ratR T.Ratio.C) H l2 s.sz) (h6 : td ≠ sd) (h7 : grR H gv s.gr) (hc : H c = some (.tup (cols.map V.str))) :
    QlA T (upd H td (.dK (kS (l ++ [(name, .ref c)])))) a td sd { s with tb := s.tb ++ [(name, cols)] } := by
  have nd : ∀ xs, (HO.dK (kS l)) ≠ .tup xs := fun xs z => nomatch z
  refine ⟨dx, gv, _, l2, by rw [upd_ne (ql_ne h1 h2)]; exact h1, upd_same, ?_, by rw [upd_ne fun z => h6 z.symm]; exact h4, h5.mono (ratR_upd h2), h6, grR_upd h2 nd h7⟩
  refine (h3.mono (tupR_upd h2 nd)).snoc ⟨c, rfl, ?_⟩
  rw [upd_ne (ne_dk hc h2)]
  exact hc
theorem ql_putS {dx : Addr} {gv : V} {l l2 : List (Str × V)} {name : Str} {p q : Int} (h1 : H a = some (.ins T.qlC dx (qlF td sd gv))) (h2 : H td = some (.dK (kS l))) (h3 : RelR tupR H l s.tb) (h4 : H sd = some (.dK (kS l2))) (h5 : RelR (ratR T.Ratio.C) H l2 s.sz) (h6 : td ≠ sd) (h7 : grR H gv s.gr) (hc : RatA T.Ratio.C H c p q) :
    QlA T (upd H sd (.dK (kS (l2 ++ [(name, .ref c)])))) a td sd { s with sz := s.sz ++ [(name, (p, q))] } := by
  have nd : ∀ xs, (HO.dK (kS l2)) ≠ .tup xs := fun xs z => nomatch z
  refine ⟨dx, gv, l, _, by rw [upd_ne (ql_ne h1 h4)]; exact h1, by rw [upd_ne h6]; exact h2, h3.mono (tupR_upd h4 nd), upd_same, ?_, h6, grR_upd h4 nd h7⟩
  exact (h5.mono (ratR_upd h4)).snoc (ratR_upd h4 (.ref c) (p, q) ⟨c, rfl, hc⟩)
theorem ratR_upd' {C : Addr} {H : Hp} {d : Addr} {u o : HO} (hd : H d = some o) (h1 : ∀ x C dx vs, o ≠ SlX.SlO x C dx vs) (h2 : ∀ fs, o ≠ .xd fs) (v : V) (z : Int × Int) (h : ratR C H v z) : ratR C (upd H d u) v z := by
  obtain ⟨t, e1, dx, e2⟩ := h
  refine ⟨t, e1, dx, ?_⟩
  rcases e2 with ⟨h3, h4⟩ | ⟨h3, h4⟩
  · cases h4
  · have n1 : t ≠ d := fun e => by subst e; rw [h3] at hd; exact h1 _ _ _ _ (Option.some.inj hd).symm
    have n2 : dx ≠ d := fun e => by subst e; rw [h4] at hd; exact h2 _ (Option.some.inj hd).symm
    exact .inr ⟨by rw [upd_ne n1]; exact h3, by rw [upd_ne n2]; exact h4⟩
theorem ql_putG {dx : Addr} {gv : V} {l l2 : List (Str × V)} {cols : List Str} (h1 : H a = some (.ins T.qlC dx (qlF td sd gv))) (h2 : H td = some (.dK (kS l))) (h3 : RelR tupR H l s.tb) (h4 : H sd = some (.dK (kS l2))) (h5 : RelR (ratR T.Ratio.C) H l2 s.sz) (h6 : td ≠ sd) (hc : H c = some (.tup (cols.map V.str))) :
    QlA T (upd H a (.ins T.qlC dx (putF "own_groups" (.ref c) (qlF td sd gv)))) a td sd { s with gr := some cols } := by
  have nd : ∀ xs, (HO.ins T.qlC dx (qlF td sd gv)) ≠ .tup xs := fun xs z => nomatch z
  have n1 := ql_ne h1 h2
  have n2 := ql_ne h1 h4
  have n3 : c ≠ a := fun z => by subst z; rw [h1] at hc; cases hc
  refine ⟨dx, .ref c, l, l2, by rw [upd_same]; rfl, by rw [upd_ne fun z => n1 z.symm]; exact h2, h3.mono (tupR_upd h1 nd), by rw [upd_ne fun z => n2 z.symm]; exact h4, h5.mono (ratR_upd' h1 (fun _ _ _ _ z => nomatch z) (fun _ z => nomatch z)), h6, c, rfl, by rw [upd_ne n3]; exact hc⟩
end

/-! ### QuestionLines.takes_table -/
def t_QuestionLines_takes_table (K : PySem.W.Frag) : TS :=
  (tSeq (tIfS (tOr (tNot (tB (tCl sp_is_name (tCons (tVar 1) tNil)))) (tOr (tTest (tOp (rEqD K) (tVar 2) (tTup tNil))) (tOr (tNot (tB (tCl sp_are_names (tCons (tVar 2) tNil)))) (tB (tDIn (tVar 1) (tFld K (tVar 0) "own_tables")))))) (tRet (tC (.bl false))) tNext)
    (tSeq (sDPut (tFld K (tVar 0) "own_tables") (tVar 1) (tVar 2))
    (tRet (tC (.bl true)))))
def sp_QuestionLines_takes_table {K : PySem.W.Frag} {mg : Str → Option Value} (T : Txt K mg) : Sp := fun vs H Q _ => ∃ (a td sd c : Addr) (H0 : Hp) (s : QS) (name : Str) (cols : List Str), vs = [.ref a, .str name, .ref c] ∧ Ahead H0 H a td sd ∧ QlA T H a td sd s ∧ H c = some (.tup (cols.map V.str)) ∧ name.length ≤ 1000 ∧ SmallW cols ∧ s.tb.length ≤ 1000 ∧ StepQ T H0 a td sd s (putTable s name cols) Q
theorem len_QuestionLines_takes_table {K : PySem.W.Frag} {mg : Str → Option Value} {T : Txt K mg} : ∀ vs H Q E, sp_QuestionLines_takes_table T vs H Q E → vs.length = 3 := fun vs H Q E ⟨_, _, _, _, _, _, _, _, e, _⟩ => by rw [e]; rfl
theorem pure_QuestionLines_takes_table {K : PySem.W.Frag} {mg : Str → Option Value} (T : Txt K mg) {vs : List V} {H : Hp} {Q : VK} {E : XK} (h : sp_QuestionLines_takes_table T vs H Q E) : t_QuestionLines_takes_table K { nx := fun _ H' => Q .non H', rt := Q } (start ["self", "name", "columns"] vs) H := by
  obtain ⟨a, td, sd, c, H0, s, name, cols, rfl, hA, hQ, hc, hn, hw, hz, k⟩ := h
  obtain ⟨dx, gv, l, l2, h1, h2, h3, h4, h5, h6, h7⟩ := id hQ
  refine q_when (b := !(isName name && (!decide (cols = []) && (areNames cols && !(s.tb.lookup name).isSome)))) (et_is (et_or (et_not (et_B (ev_cl (ea_cons (ev_var rfl) ea_nil) (spv_is_name (by omega))))) fun _ => et_or (et_test (ev_eqTup (m := []) (ev_var rfl) (SqT.of hc) (eu_tup ea_nil (by decide)) (fun z hz => (hw.2 z hz).2) (fun z hz => nomatch hz))) fun _ =>
    et_or (et_not (et_B (ev_cl (ea_cons (ev_var rfl) ea_nil) (spv_are_names hc (by have := hw.1; omega) fun z hz => by have := (hw.2 z hz).1; omega)))) fun _ => et_B (ev_din (ev_var rfl) (ev_fld (ev_var rfl) h1 T.qlCls T.qlT rfl) (.inl h2)))
    (by rw [h3.isSome]; cases isName name <;> cases decide (cols = []) <;> cases areNames cols <;> cases (s.tb.lookup name).isSome <;> rfl)) (fun hb H1 e1 => ?_) (fun hb H1 e1 => ?_)
  · refine s_ret ev_c fun H2 e2 => (k H2 ((hA.e.trans e1).trans e2)).2 ?_ (hQ.ex (e1.trans e2))
    unfold putTable
    rw [if_neg (by rw [nt hb]; decide)]
  · have hb1 := nf hb
    have hlk : s.tb.lookup name = none := by
      simp only [Bool.and_eq_true, Bool.not_eq_true', Option.isSome_eq_false_iff, Option.isNone_iff_eq_none] at hb1
      exact hb1.2.2.2
    refine q_dput (ev_fld (ev_var rfl) (e1 _ _ h1) T.qlCls T.qlT rfl) (ev_var rfl) (ev_var rfl) (e1 _ _ h2) (h3.no hlk) (by rw [h3.len]; omega) fun H2 e2 => ?_
    have e12 := e1.trans e2
    have hQ2 := ql_putT (s := s) (name := name) (e12 _ _ h1) (e12 _ _ h2) (h3.mono (tupR_ex e12)) (e12 _ _ h4) (h5.mono (ratR_ex e12)) h6 (grR_ex e12 h7) (e12 _ _ hc)
    refine s_ret ev_c fun H3 e3 => (k H3 (((hA.e.trans e12).mut hA.t0).trans e3)).1 _ ?_ (hQ2.ex e3)
    unfold putTable
    rw [if_pos hb1]
theorem sc_QuestionLines_takes_table : FnScope ["self", "name", "columns"] ["self", "name", "columns"] (defScope s_QuestionLines_takes_table) := ⟨rfl, rfl, rfl, by decide +kernel, rfl, by decide +kernel, by decide +kernel⟩
theorem d_QuestionLines_takes_table {P : Program} {w : World} {K : PySem.W.Frag} {mg : Str → Option Value} {base : Heap} (T : Txt K mg) {f : Addr} {cdv : Value} {A : Around} {outer : List Env} {s : Shared} {H : Hp} {E : XK} (hr : Room 2 (A.deeper (envOfC "QuestionLines.takes_table" (defScope s_QuestionLines_takes_table) s.heap.objs.size f cdv))) :
    PSs (cxOf CX0 P w K mg base ["self", "name", "columns"] "QuestionLines.takes_table" (defScope s_QuestionLines_takes_table) f cdv A outer s H E).nox (defBody s_QuestionLines_takes_table) (t_QuestionLines_takes_table K) := by
  have hu := hu_of hr
  exact (pss_cons (ps_if (PW.pt (pw_or (pt_not (pt_val (pe_cl (cl_is_name T) hr (pa_cons (pv 1) pa_nil)))) (pw_or (pt_cmpR (op_eqD hr.units) (pv 2) (pe_tup pa_nil) (nomark _)) (pw_or (pt_not (pt_val (pe_cl (cl_are_names T) hr (pa_cons (pv 2) pa_nil)))) (pw_or1 (pt_cmp (pc_din hu (pv 1) (pe_fld (pv 0) rfl)))))))) (pss_one (ps_ret pe_bl)) pss_nil)
      (pss_cons (ps_dput hu (pe_fld (pv 0) rfl) (pv 1) (pv 2) rfl)
      (pss_one (ps_ret pe_bl))))
theorem ok_QuestionLines_takes_table {P : Program} {w : World} {K : PySem.W.Frag} {mg : Str → Option Value} {base : Heap} (T : Txt K mg) : FnOk P w K mg base CX0 3 T.QuestionLines_takes_table.f T.QuestionLines_takes_table.fd ["self", "name", "columns"] (sp_QuestionLines_takes_table T) :=
  ok0 T.QuestionLines_takes_table.F sc_QuestionLines_takes_table len_QuestionLines_takes_table fun cdv A outer s H vs Q E hr h => ⟨t_QuestionLines_takes_table K, d_QuestionLines_takes_table T hr, pure_QuestionLines_takes_table T h⟩
theorem b_QuestionLines_takes_table {K : PySem.W.Frag} {mg : Str → Option Value} (T : Txt K mg) : Binds K T.QuestionLines_takes_table.fd ["self", "name", "columns"] [] := T.QuestionLines_takes_table.F.bindsN fun _ _ _ _ _ _ us hl => match us, hl with | [_, _, _], _ => rfl
theorem r_QuestionLines_takes_table {P : Program} {w : World} {K : PySem.W.Frag} {mg : Str → Option Value} {base : Heap} (T : Txt K mg) : FnR P w K mg base CX0 3 T.QuestionLines_takes_table.f (sp_QuestionLines_takes_table T) := fnr_of (ok_QuestionLines_takes_table T) (T.QuestionLines_takes_table.F.bindsN fun _ _ _ _ _ _ us hl => match us, hl with | [_, _, _], _ => rfl)

/-! ### QuestionLines.takes_size -/
def t_QuestionLines_takes_size (K : PySem.W.Frag) : TS :=
  (tSeq (tIfS (tOr (tNot (tB (tCl sp_is_name (tCons (tVar 1) tNil)))) (tOr (tTest (tOp rIsNn (tVar 2) (tC .non))) (tB (tDIn (tVar 1) (tFld K (tVar 0) "own_sizes"))))) (tRet (tC (.bl false))) tNext)
    (tSeq (sDPut (tFld K (tVar 0) "own_sizes") (tVar 1) (tVar 2))
    (tRet (tC (.bl true)))))
/-- the value of a size: None, or a ratio -/
def optR (C : Addr) (H : Hp) (v : V) : Option (Int × Int) → Prop
  | none => v = .non
  | some z => ratR C H v z
theorem optR_ex {C : Addr} {H H' : Hp} (e : Ex H H') {v : V} : ∀ {o : Option (Int × Int)}, optR C H v o → optR C H' v o
  | none, h => h
  | some z, h => ratR_ex e v z h
def sp_QuestionLines_takes_size {K : PySem.W.Frag} {mg : Str → Option Value} (T : Txt K mg) : Sp := fun vs H Q _ => ∃ (a td sd : Addr) (v : V) (H0 : Hp) (s : QS) (name : Str) (z : Option (Int × Int)), vs = [.ref a, .str name, v] ∧ Ahead H0 H a td sd ∧ QlA T H a td sd s ∧ optR T.Ratio.C H v z ∧ name.length ≤ 1000 ∧ s.sz.length ≤ 1000 ∧ StepQ T H0 a td sd s (putSize s name z) Q
theorem len_QuestionLines_takes_size {K : PySem.W.Frag} {mg : Str → Option Value} {T : Txt K mg} : ∀ vs H Q E, sp_QuestionLines_takes_size T vs H Q E → vs.length = 3 := fun vs H Q E ⟨_, _, _, _, _, _, _, _, e, _⟩ => by rw [e]; rfl
theorem optR_non {C : Addr} {H : Hp} {v : V} {z : Option (Int × Int)} (h : optR C H v z) : decide (v = V.non) = z.isNone := by
  cases z with
  | none => rw [show v = .non from h]; rfl
  | some z => obtain ⟨t, e, _⟩ := h; rw [e]; rfl
theorem pure_QuestionLines_takes_size {K : PySem.W.Frag} {mg : Str → Option Value} (T : Txt K mg) {vs : List V} {H : Hp} {Q : VK} {E : XK} (h : sp_QuestionLines_takes_size T vs H Q E) : t_QuestionLines_takes_size K { nx := fun _ H' => Q .non H', rt := Q } (start ["self", "name", "size"] vs) H := by
  obtain ⟨a, td, sd, v, H0, s, name, z, rfl, hA, hQ, hv, hn, hz, k⟩ := h
  obtain ⟨dx, gv, l, l2, h1, h2, h3, h4, h5, h6, h7⟩ := id hQ
  refine q_when (b := !(isName name && (!z.isNone && !(s.sz.lookup name).isSome))) (et_is (et_or (et_not (et_B (ev_cl (ea_cons (ev_var rfl) ea_nil) (spv_is_name (by omega))))) fun _ => et_or (et_is (et_test (ev_op (ev_var rfl) ev_c rv_isNn)) (optR_non hv)) fun _ =>
    et_B (ev_din (ev_var rfl) (ev_fld (ev_var rfl) h1 T.qlCls T.qlS rfl) (.inl h4)))
    (by rw [h5.isSome]; cases isName name <;> cases z.isNone <;> cases (s.sz.lookup name).isSome <;> rfl)) (fun hb H1 e1 => ?_) (fun hb H1 e1 => ?_)
  · refine s_ret ev_c fun H2 e2 => (k H2 ((hA.e.trans e1).trans e2)).2 ?_ (hQ.ex (e1.trans e2))
    unfold putSize
    cases z with
    | none => rfl
    | some z =>
      show (if _ then _ else _) = _
      rw [if_neg]
      have := nt hb
      simpa using this
  · have hb1 := nf hb
    cases z with
    | none => simp at hb1
    | some z =>
    obtain ⟨c, rfl, hr⟩ := hv
    have hlk : s.sz.lookup name = none := by
      simp only [Bool.and_eq_true, Bool.not_eq_true', Option.isSome_eq_false_iff, Option.isNone_iff_eq_none] at hb1
      exact hb1.2.2
    refine q_dput (ev_fld (ev_var rfl) (e1 _ _ h1) T.qlCls T.qlS rfl) (ev_var rfl) (ev_var rfl) (e1 _ _ h4) (h5.no hlk) (by rw [h5.len]; omega) fun H2 e2 => ?_
    have e12 := e1.trans e2
    have hQ2 := ql_putS (s := s) (name := name) (e12 _ _ h1) (e12 _ _ h2) (h3.mono (tupR_ex e12)) (e12 _ _ h4) (h5.mono (ratR_ex e12)) h6 (grR_ex e12 h7) (rat_ex e12 hr)
    refine s_ret ev_c fun H3 e3 => (k H3 (((hA.e.trans e12).mut hA.s0).trans e3)).1 _ ?_ (hQ2.ex e3)
    unfold putSize
    show (if _ then _ else _) = _
    rw [if_pos]
    simpa using hb1
theorem sc_QuestionLines_takes_size : FnScope ["self", "name", "size"] ["self", "name", "size"] (defScope s_QuestionLines_takes_size) := ⟨rfl, rfl, rfl, by decide +kernel, rfl, by decide +kernel, by decide +kernel⟩
theorem d_QuestionLines_takes_size {P : Program} {w : World} {K : PySem.W.Frag} {mg : Str → Option Value} {base : Heap} (T : Txt K mg) {f : Addr} {cdv : Value} {A : Around} {outer : List Env} {s : Shared} {H : Hp} {E : XK} (hr : Room 2 (A.deeper (envOfC "QuestionLines.takes_size" (defScope s_QuestionLines_takes_size) s.heap.objs.size f cdv))) :
    PSs (cxOf CX0 P w K mg base ["self", "name", "size"] "QuestionLines.takes_size" (defScope s_QuestionLines_takes_size) f cdv A outer s H E).nox (defBody s_QuestionLines_takes_size) (t_QuestionLines_takes_size K) := by
  have hu := hu_of hr
  exact (pss_cons (ps_if (PW.pt (pw_or (pt_not (pt_val (pe_cl (cl_is_name T) hr (pa_cons (pv 1) pa_nil)))) (pw_or (pt_cmpR op_isN (pv 2) pe_non (nomark _)) (pw_or1 (pt_cmp (pc_din hu (pv 1) (pe_fld (pv 0) rfl))))))) (pss_one (ps_ret pe_bl)) pss_nil)
      (pss_cons (ps_dput hu (pe_fld (pv 0) rfl) (pv 1) (pv 2) rfl)
      (pss_one (ps_ret pe_bl))))
theorem ok_QuestionLines_takes_size {P : Program} {w : World} {K : PySem.W.Frag} {mg : Str → Option Value} {base : Heap} (T : Txt K mg) : FnOk P w K mg base CX0 3 T.QuestionLines_takes_size.f T.QuestionLines_takes_size.fd ["self", "name", "size"] (sp_QuestionLines_takes_size T) :=
  ok0 T.QuestionLines_takes_size.F sc_QuestionLines_takes_size len_QuestionLines_takes_size fun cdv A outer s H vs Q E hr h => ⟨t_QuestionLines_takes_size K, d_QuestionLines_takes_size T hr, pure_QuestionLines_takes_size T h⟩
theorem b_QuestionLines_takes_size {K : PySem.W.Frag} {mg : Str → Option Value} (T : Txt K mg) : Binds K T.QuestionLines_takes_size.fd ["self", "name", "size"] [] := T.QuestionLines_takes_size.F.bindsN fun _ _ _ _ _ _ us hl => match us, hl with | [_, _, _], _ => rfl
theorem r_QuestionLines_takes_size {P : Program} {w : World} {K : PySem.W.Frag} {mg : Str → Option Value} {base : Heap} (T : Txt K mg) : FnR P w K mg base CX0 3 T.QuestionLines_takes_size.f (sp_QuestionLines_takes_size T) := fnr_of (ok_QuestionLines_takes_size T) (T.QuestionLines_takes_size.F.bindsN fun _ _ _ _ _ _ us hl => match us, hl with | [_, _, _], _ => rfl)

/-! ### QuestionLines.takes_groups -/
def t_QuestionLines_takes_groups (K : PySem.W.Frag) : TS :=
  (tSeq (tIfS (tOr (tTest (tOp (rEqD K) (tVar 1) (tTup tNil))) (tOr (tNot (tB (tCl sp_are_names (tCons (tVar 1) tNil)))) (tTest (tOp rNotNn (tFld K (tVar 0) "own_groups") (tC .non))))) (tRet (tC (.bl false))) tNext)
    (tSeq (sFld K (tVar 0) (tVar 1) "own_groups")
    (tRet (tC (.bl true)))))
def sp_QuestionLines_takes_groups {K : PySem.W.Frag} {mg : Str → Option Value} (T : Txt K mg) : Sp := fun vs H Q _ => ∃ (a td sd c : Addr) (H0 : Hp) (s : QS) (cols : List Str), vs = [.ref a, .ref c] ∧ Ahead H0 H a td sd ∧ QlA T H a td sd s ∧ H c = some (.tup (cols.map V.str)) ∧ SmallW cols ∧ StepQ T H0 a td sd s (putGroups s cols) Q
theorem len_QuestionLines_takes_groups {K : PySem.W.Frag} {mg : Str → Option Value} {T : Txt K mg} : ∀ vs H Q E, sp_QuestionLines_takes_groups T vs H Q E → vs.length = 2 := fun vs H Q E ⟨_, _, _, _, _, _, _, e, _⟩ => by rw [e]; rfl
theorem grR_non {H : Hp} {v : V} {z : Option (List Str)} (h : grR H v z) : decide (v = V.non) = z.isNone := by
  cases z with
  | none => rw [show v = .non from h]; rfl
  | some z => obtain ⟨t, e, _⟩ := h; rw [e]; rfl
theorem pure_QuestionLines_takes_groups {K : PySem.W.Frag} {mg : Str → Option Value} (T : Txt K mg) {vs : List V} {H : Hp} {Q : VK} {E : XK} (h : sp_QuestionLines_takes_groups T vs H Q E) : t_QuestionLines_takes_groups K { nx := fun _ H' => Q .non H', rt := Q } (start ["self", "columns"] vs) H := by
  obtain ⟨a, td, sd, c, H0, s, cols, rfl, hA, hQ, hc, hw, k⟩ := h
  obtain ⟨dx, gv, l, l2, h1, h2, h3, h4, h5, h6, h7⟩ := id hQ
  refine q_when (b := !(!decide (cols = []) && (areNames cols && s.gr.isNone))) (et_is (et_or (et_test (ev_eqTup (m := []) (ev_var rfl) (SqT.of hc) (eu_tup ea_nil (by decide)) (fun z hz => (hw.2 z hz).2) (fun z hz => nomatch hz))) fun _ =>
    et_or (et_not (et_B (ev_cl (ea_cons (ev_var rfl) ea_nil) (spv_are_names hc (by have := hw.1; omega) fun z hz => by have := (hw.2 z hz).1; omega)))) fun _ => et_is (et_test (ev_op (ev_fld (ev_var rfl) h1 T.qlCls T.qlP rfl) ev_c rv_notNn)) (congrArg (!·) (grR_non h7)))
    (by cases decide (cols = []) <;> cases areNames cols <;> cases s.gr.isNone <;> rfl)) (fun hb H1 e1 => ?_) (fun hb H1 e1 => ?_)
  · refine s_ret ev_c fun H2 e2 => (k H2 ((hA.e.trans e1).trans e2)).2 ?_ (hQ.ex (e1.trans e2))
    unfold putGroups
    rw [if_neg (by rw [nt hb]; decide)]
  · have hb1 := nf hb
    refine q_fld (ev_var rfl) (ev_var rfl) (e1 _ _ h1) T.qlCls T.qlP (Nat.le_add_left 4 996) fun H2 e2 => ?_
    have e12 := e1.trans e2
    have hQ2 := ql_putG (s := s) (e12 _ _ h1) (e12 _ _ h2) (h3.mono (tupR_ex e12)) (e12 _ _ h4) (h5.mono (ratR_ex e12)) h6 (e12 _ _ hc)
    refine s_ret ev_c fun H3 e3 => (k H3 (((hA.e.trans e12).mut hA.a0).trans e3)).1 _ ?_ (hQ2.ex e3)
    unfold putGroups
    rw [if_pos hb1]
theorem sc_QuestionLines_takes_groups : FnScope ["self", "columns"] ["self", "columns"] (defScope s_QuestionLines_takes_groups) := ⟨rfl, rfl, rfl, by decide +kernel, rfl, by decide +kernel, by decide +kernel⟩
theorem d_QuestionLines_takes_groups {P : Program} {w : World} {K : PySem.W.Frag} {mg : Str → Option Value} {base : Heap} (T : Txt K mg) {f : Addr} {cdv : Value} {A : Around} {outer : List Env} {s : Shared} {H : Hp} {E : XK} (hr : Room 2 (A.deeper (envOfC "QuestionLines.takes_groups" (defScope s_QuestionLines_takes_groups) s.heap.objs.size f cdv))) :
    PSs (cxOf CX0 P w K mg base ["self", "columns"] "QuestionLines.takes_groups" (defScope s_QuestionLines_takes_groups) f cdv A outer s H E).nox (defBody s_QuestionLines_takes_groups) (t_QuestionLines_takes_groups K) := by
  have hu := hu_of hr
  exact (pss_cons (ps_if (PW.pt (pw_or (pt_cmpR (op_eqD hr.units) (pv 1) (pe_tup pa_nil) (nomark _)) (pw_or (pt_not (pt_val (pe_cl (cl_are_names T) hr (pa_cons (pv 1) pa_nil)))) (pw_or1 (pt_cmpR op_notN (pe_fld (pv 0) rfl) pe_non (nomark _)))))) (pss_one (ps_ret pe_bl)) pss_nil)
      (pss_cons (ps_fld (pv 0) (pv 1) rfl)
      (pss_one (ps_ret pe_bl))))
theorem ok_QuestionLines_takes_groups {P : Program} {w : World} {K : PySem.W.Frag} {mg : Str → Option Value} {base : Heap} (T : Txt K mg) : FnOk P w K mg base CX0 3 T.QuestionLines_takes_groups.f T.QuestionLines_takes_groups.fd ["self", "columns"] (sp_QuestionLines_takes_groups T) :=
  ok0 T.QuestionLines_takes_groups.F sc_QuestionLines_takes_groups len_QuestionLines_takes_groups fun cdv A outer s H vs Q E hr h => ⟨t_QuestionLines_takes_groups K, d_QuestionLines_takes_groups T hr, pure_QuestionLines_takes_groups T h⟩
theorem b_QuestionLines_takes_groups {K : PySem.W.Frag} {mg : Str → Option Value} (T : Txt K mg) : Binds K T.QuestionLines_takes_groups.fd ["self", "columns"] [] := T.QuestionLines_takes_groups.F.bindsN fun _ _ _ _ _ _ us hl => match us, hl with | [_, _], _ => rfl
theorem r_QuestionLines_takes_groups {P : Program} {w : World} {K : PySem.W.Frag} {mg : Str → Option Value} {base : Heap} (T : Txt K mg) : FnR P w K mg base CX0 3 T.QuestionLines_takes_groups.f (sp_QuestionLines_takes_groups T) := fnr_of (ok_QuestionLines_takes_groups T) (T.QuestionLines_takes_groups.F.bindsN fun _ _ _ _ _ _ us hl => match us, hl with | [_, _], _ => rfl)

end K08

namespace K08
open PySem PySem.Spec PyProof.Rows L2 Evl
/-! ### the words of a line (plain) -/
theorem spl_parts (S : List Nat) : ∀ (l : List Nat) (k : Nat) (acc : List Nat), (TL.spl S k acc l).length ≤ l.length + 1 ∧ ∀ p ∈ TL.spl S k acc l, p.length ≤ acc.length + l.length ∧ ∀ c ∈ p, c ∈ acc ∨ c ∈ l := by
  intro l
  induction l with
  | nil =>
    intro k acc
    cases k <;> exact ⟨Nat.le_refl _, fun p hp => by
      have hp : p ∈ [acc] := hp
      rw [List.mem_singleton.mp hp]
      exact ⟨Nat.le_refl _, fun c hc => .inl hc⟩⟩
  | cons c r ih =>
    intro k acc
    cases k with
    | zero =>
      by_cases h : TL.pre S (c :: r) = true
      · rw [TL.spl_hit h]
        have := ih (S.length - 1) []
        refine ⟨by simp only [List.length_cons]; omega, fun p hp => ?_⟩
        rcases List.mem_cons.mp hp with rfl | hp
        · exact ⟨by simp only [List.length_cons]; omega, fun d hd => .inl hd⟩
        · obtain ⟨h1, h2⟩ := this.2 p hp
          simp only [List.length_cons, List.length_nil] at h1 ⊢
          refine ⟨by omega, fun d hd => ?_⟩
          rcases h2 d hd with h | h
          · cases h
          · exact .inr (List.mem_cons_of_mem _ h)
      · rw [TL.spl_miss (by simpa using h)]
        have := ih 0 (acc ++ [c])
        refine ⟨by simp only [List.length_cons]; omega, fun p hp => ?_⟩
        obtain ⟨h1, h2⟩ := this.2 p hp
        simp only [List.length_append, List.length_cons, List.length_nil] at h1 ⊢
        refine ⟨by omega, fun d hd => ?_⟩
        rcases h2 d hd with h | h
        · rcases List.mem_append.mp h with h | h
          · exact .inl h
          · rw [List.mem_singleton.mp h]; exact .inr List.mem_cons_self
        · exact .inr (List.mem_cons_of_mem _ h)
    | succ k =>
      have := ih k acc
      refine ⟨by show (TL.spl S k acc r).length ≤ _; simp only [List.length_cons]; omega, fun p hp => ?_⟩
      obtain ⟨h1, h2⟩ := this.2 p hp
      simp only [List.length_cons]
      refine ⟨by omega, fun d hd => ?_⟩
      rcases h2 d hd with h | h
      · exact .inl h
      · exact .inr (List.mem_cons_of_mem _ h)
theorem strOk_iff {x : Str} : PyData.strOk x = true ↔ ∀ c ∈ TL.tl x, c < 1114112 := by
  unfold PyData.strOk
  rw [Array.all_eq_true']
  constructor
  · intro h c hc
    have := h c (by simpa [TL.tl] using hc)
    simpa using this
  · intro h c hc
    have := h c (by simpa [TL.tl] using hc)
    simpa using this
theorem split_parts {x y : Str} (hy : TL.tl y ≠ []) (hk : ¬ Builtin.Str.strKind x < Builtin.Str.strKind y) : (Txt.split x y).length ≤ x.length + 1 ∧ ∀ w ∈ Txt.split x y, w.length ≤ x.length ∧ ∀ c ∈ TL.tl w, c ∈ TL.tl x := by
  have e := TL.split_spl x y hy hk
  have h := spl_parts (TL.tl y) (TL.tl x) 0 []
  rw [← e] at h
  rw [List.length_map] at h
  refine ⟨by rw [tl_len]; exact h.1, fun w hw => ?_⟩
  obtain ⟨h1, h2⟩ := h.2 (TL.tl w) (List.mem_map.mpr ⟨w, hw, rfl⟩)
  rw [tl_len, tl_len]
  refine ⟨by simpa using h1, fun c hc => ?_⟩
  rcases h2 c hc with h | h
  · cases h
  · exact h
/-- a line that is a text: not long, its signs signs -/
def lnOk (z : Str) : Prop := z.length ≤ 60 ∧ PyData.strOk z = true
def wordsOf (z : Str) : List Str := Txt.split z " "
theorem tl_space : TL.tl (" " : Str) = [32] := by decide +kernel
theorem words_ok {z : Str} (h : lnOk z) : (wordsOf z).length ≤ 61 ∧ ∀ w ∈ wordsOf z, w.length ≤ 60 ∧ PyData.strOk w = true := by
  have hp := split_parts (x := z) (y := " ") (by rw [tl_space]; decide) (TL.kind_ok (by decide +kernel))
  refine ⟨Nat.le_trans hp.1 (by have := h.1; omega), fun w hw => ?_⟩
  obtain ⟨h1, h2⟩ := hp.2 w hw
  exact ⟨Nat.le_trans h1 h.1, strOk_iff.mpr fun c hc => strOk_iff.mp h.2 c (h2 c hc)⟩
/-- tuple(a list) -/
theorem eu_tupN' {K : PySem.W.Frag} {σ : L2.St} {H : Hp} {te : TE} {a : Addr} {xs : List V} (h : Ev te σ H (.ref a)) (hx : SqL K H a xs) : EvU (tCB (rTupOf K) (tCons te tNil)) σ H xs := fun H1 e Q q => h H1 e _ fun H2 e2 =>
  ⟨a, xs, rfl, .inl ⟨ex_l (e.trans e2) hx, fun l hl => q l _ (fresh_back e2 hl) (e2.trans (Ex.new hl)) upd_same⟩⟩

end K08

namespace K08
open PySem PySem.Spec PyProof.Rows L2 Evl
/-! ### match over a list of words: [a, b, *r], [a, b, c], [a, *r], each with a guard -/
section
open PySem.W PyProof.Rows
variable {prog : Program} {w : World} {A : Around} {E : Value → Shared → Prop} {s : Shared} {env : Env}
theorem un_starL {l : Addr} {items : Array Value} {n i : Nat} {Q : List Value → Shared → Prop} (hl : s.heap.IsList l items) (hh : A.handled = none) (hi : i < n) (hn : n = i + 1) (hn2 : n ≤ items.size + 1) (hz : items.size ≤ 16384)
    (h : ∀ h' tk, Heap.ExtBut s.heap.objs.size s.heap h' → Q (items.toList.take i ++ [.ref h'.objs.size] ++ []) { s with heap := h'.push { cls := .type "list", data := .seq (items.toList.drop i).toArray }, toks := tk }) : wpAny (model prog w) A (unpackItems (.ref l) n (some i)) Q E s := by
  have hlt : l ≠ s.heap.objs.size := by obtain ⟨o, ho, _⟩ := hl; exact Nat.ne_of_lt (Heap.lt_size ho)
  unfold unpackItems
  refine wpAny_bind ?_
  unfold notIterableAtAll
  refine wpAny_bind (wpAny_specialOf hl.typeIs slot_list_iter.lookup ?_)
  refine wpAny_pure ?_
  simp only [Bool.false_eq_true, if_false]
  refine wpAny_bind (wpAny_holding (wpAny_pyIter_list hl ?_))
  refine wpAny_bind (wpAny_holding (kun_draw hlt i 0 _ _ ⟨_, Heap.get?_push_size _ rfl, rfl, rfl⟩ (hl.push _) (by omega) fun h₁ hit₁ hs₁ => ?_))
  have hl₁ : h₁.IsList l items := (hl.push _).extBut hs₁.extBut hlt
  rw [Nat.zero_add] at hit₁
  have hit₁' := hit₁
  obtain ⟨oi, hoi, _⟩ := hit₁'
  have hl₁' := hl₁
  obtain ⟨ol, hol, _⟩ := hl₁'
  rw [List.drop_zero]
  have hfl : (items.toList.take i).length = i := by rw [List.length_take, Array.length_toList]; omega
  rw [if_neg (show ¬ ((items.toList.take i).length < i) by rw [hfl]; omega)]
  refine wpAny_bind (wpAny_holding (kun_collect (s := { s with heap := h₁ }) (T := "list_iterator") (.inr (.inr (.inl rfl))) (Walks.list (A := A.in1) hh s.heap.objs.size l hlt items) (fun j u st => st.1.typeIs) (k := i) (by omega) ⟨hit₁, hl₁⟩ (Heap.lt_size hoi) (Heap.lt_size hol) (fun h₂ tk hk => ?_) (by rw [sizeLine_eq]; omega)))
  have hrl : (items.toList.drop i).length = items.size - i := by rw [List.length_drop, Array.length_toList]
  have hmid : (items.toList.drop i).length - (n - 1 - i) = items.size - i := by rw [hrl]; omega
  show wpAny _ _ (if (items.toList.drop i).length < n - 1 - i then _ else _) _ _ _
  rw [if_neg (by rw [hrl]; omega)]
  show wpAny _ _ (newList ((items.toList.drop i).take ((items.toList.drop i).length - (n - 1 - i))) >>= fun d => pure (items.toList.take i ++ [d] ++ (items.toList.drop i).drop ((items.toList.drop i).length - (n - 1 - i)))) _ _ _
  rw [hmid, ← hrl, List.take_length, List.drop_length]
  have he : Heap.ExtBut s.heap.objs.size s.heap h₂ := fun b o hb e => hk b o hb (hs₁.extBut b o hb (Heap.get?_push_of_some _ e))
  exact wpAny_bind (wpAny_newList (wpAny_pure (h h₂ tk he)))
end
theorem items3 {prog : Program} {w : World} {A : Around} {E : Value → Shared → Prop} {s : Shared} {l : Addr} {us : List Value} {Q : List Value → Shared → Prop} (hh : A.handled = none) (hl : s.heap.IsList l us.toArray) (hn : us.length = 3) (h : ∀ h', Heap.ExtBut s.heap.objs.size s.heap h' → Q us { s with heap := h' }) : wpAny (model prog w) A (unpackItems (.ref l) 3 none) Q E s := by
  have e : (3 : Nat) = us.toArray.size := by rw [List.size_toArray, hn]
  rw [e]
  exact PySem.W.kun_itemsOf hh hl fun h' x => h h' x
/-- the cases of a match over a value -/
structure PMs (X : Cx) (cs : List MatchCase) (c : V → TS) : Prop where
  run : ∀ (pins : List (Addr × Obj)) (s : Shared) (σ : L2.St) (H : Hp) (D : Ends) (v : V) (u : Value) (b : Bool), Inv X pins σ H s → RelV v u → c v D σ H → wpAny (model X.prog X.w) X.A (matchCases cs X.env u b) (SP X pins D) X.xe s
def tMatch (ts : TE) (c : V → TS) : TS := fun D σ H => ts σ H fun v H1 => c v D σ H1
section
variable {X : Cx} {subj : Expr} {cs : List MatchCase} {c : V → TS} {pos sp p1 p2 p3 : Pos} {ts : TE} {g : Expr} {body : List Stmt} {tg : TT} {tb : TS} {x1 x2 x3 : Str} {i1 i2 i3 : Nat}
theorem ps_match (he : PE X subj ts) (hc : PMs X cs c) : PS X (.Match subj cs pos) (tMatch ts c) := by
  refine ⟨fun pins s σ H D I h => ?_⟩
  refine wpAny_Match (thn (he.run pins s σ H _ I h) fun u s1 ⟨v, H1, I1, r1, q1⟩ => ?_)
  exact hc.run pins s1 σ H1 D v u true I1 r1 q1
theorem pms_nil : PMs X [] (fun _ => tNext) := ⟨fun pins s σ H D v u b I r h => wpAny_matchCases_nil ⟨σ, H, I, h⟩⟩
/-- a case's name: the slot, a plain local -/
structure Nm (X : Cx) (x : Str) (i : Nat) : Prop where
  at_ : X.N[i]? = some x
  lo : X.env.scope.names.lookup x = some .local
theorem bind_nm {pins : List (Addr × Obj)} {s : Shared} {σ : L2.St} {H : Hp} {x : Str} {i : Nat} {v : V} {u : Value} {Q : Unit → Shared → Prop} (hN : X.N.Nodup) (n : Nm X x i) (I : Inv X pins σ H s) (r : RelV v u) (h : ∀ s', Inv X pins (σ.set i (some v)) H s' → Q () s') : wpAny (model X.prog X.w) X.A (bindName X.env x u) Q X.xe s :=
  wpAny_bindName (store_ok I hN n.at_ (.inl n.lo) r h (.inr n.lo))
/-- behind the patterns: the guard, then the body or the further cases -/
theorem guard_run {pins : List (Addr × Obj)} {s : Shared} {σ : L2.St} {H : Hp} {D : Ends} {v : V} {u : Value} (hg : PT X g tg) (hb : PSs X body tb) (hc : PMs X cs c) (I : Inv X pins σ H s) (r : RelV v u) (h : tg σ H fun b H2 => if b = true then tb D σ H2 else c v D σ H2) :
    wpAny (model X.prog X.w) X.A (isTrue g X.env (eval g X.env)) (fun ok s₃ => if ok then wpAny (model X.prog X.w) X.A (execs body X.env) (SP X pins D) X.xe s₃ else wpAny (model X.prog X.w) X.A (matchCases cs X.env u false) (SP X pins D) X.xe s₃) X.xe s := by
  refine thn (hg.run pins s σ H _ I h) fun b s1 ⟨H1, I1, q1⟩ => ?_
  cases b with
  | true => exact hb.run pins s1 σ H1 D I1 q1
  | false => exact hc.run pins s1 σ H1 D v u false I1 r q1
def mStar2 (K : PySem.W.Frag) (i1 i2 i3 : Nat) (tg : TT) (tb : TS) (c : V → TS) : V → TS := fun v D σ H => ∃ a xs, v = .ref a ∧ SqL K H a xs ∧ xs.length ≤ 16384 ∧ (xs.length < 2 → c v D σ H) ∧
  ∀ x y r, xs = x :: y :: r → ∀ p, H p = none → tg (((σ.set i1 (some x)).set i2 (some y)).set i3 (some (.ref p))) (upd H p (.lst r)) fun b H2 => if b = true then tb D (((σ.set i1 (some x)).set i2 (some y)).set i3 (some (.ref p))) H2 else c v D (((σ.set i1 (some x)).set i2 (some y)).set i3 (some (.ref p))) H2
def mSeq3 (K : PySem.W.Frag) (i1 i2 i3 : Nat) (tg : TT) (tb : TS) (c : V → TS) : V → TS := fun v D σ H => ∃ a xs, v = .ref a ∧ SqL K H a xs ∧ xs.length ≤ 16384 ∧ (xs.length ≠ 3 → c v D σ H) ∧
  ∀ x y z, xs = [x, y, z] → tg (((σ.set i1 (some x)).set i2 (some y)).set i3 (some z)) H fun b H2 => if b = true then tb D (((σ.set i1 (some x)).set i2 (some y)).set i3 (some z)) H2 else c v D (((σ.set i1 (some x)).set i2 (some y)).set i3 (some z)) H2
def mStar1 (K : PySem.W.Frag) (i1 i2 : Nat) (tg : TT) (tb : TS) (c : V → TS) : V → TS := fun v D σ H => ∃ a xs, v = .ref a ∧ SqL K H a xs ∧ xs.length ≤ 16384 ∧ (xs.length < 1 → c v D σ H) ∧
  ∀ x r, xs = x :: r → ∀ p, H p = none → tg ((σ.set i1 (some x)).set i2 (some (.ref p))) (upd H p (.lst r)) fun b H2 => if b = true then tb D ((σ.set i1 (some x)).set i2 (some (.ref p))) H2 else c v D ((σ.set i1 (some x)).set i2 (some (.ref p))) H2
theorem fit63 {n : Nat} (h : n ≤ 16384) : ((n : Nat) : Int) < 2 ^ 63 := by
  have : (16384 : Int) < 2 ^ 63 := by decide
  omega
/-- a new list behind an iterator -/
theorem laid_list {pins : List (Addr × Obj)} {s : Shared} {σ : L2.St} {H : Hp} {h' : Heap} {tk : Nat} {xs : List V} {us : List Value} (I : Inv X pins σ H s) (e : Heap.ExtBut s.heap.objs.size s.heap h') (r : Vals xs us) (hz : xs.length ≤ 16384) :
    H h'.objs.size = none ∧ Inv X pins σ (upd H h'.objs.size (.lst xs)) { s with heap := h'.push { cls := .type "list", data := .seq us.toArray }, toks := tk } := by
  have k : ∀ b u, s.heap.get? b = some u → h'.get? b = some u := fun b o eo => e b o (Nat.ne_of_lt (Heap.lt_size eo)) eo
  have I1 : Inv X pins σ H { s with heap := h', toks := tk } := I.kept k
  exact ⟨I1.hok.fresh (Nat.le_refl _), I1.laid (t' := tk) (fun b u e => Heap.get?_push_of_some _ e) (Nat.le_refl _) ⟨by rw [sizeLine_eq]; omega, us, 0, r, Heap.get?_push_size _ rfl⟩⟩
theorem pms_star2 (hN : X.N.Nodup) (hcalm : X.calm = true) (n1 : Nm X x1 i1) (n2 : Nm X x2 i2) (n3 : Nm X x3 i3) (hg : PT X g tg) (hb : PSs X body tb) (hc : PMs X cs c) :
    PMs X (⟨.MatchSequence [.MatchAs none (some x1) p1, .MatchAs none (some x2) p2, .MatchStar (some x3) p3] sp, some g, body⟩ :: cs) (mStar2 X.K i1 i2 i3 tg tb c) := by
  refine ⟨fun pins s σ H D v u b I r h => ?_⟩
  obtain ⟨a, xs, rfl, hx, hz, hs, hl⟩ := h
  cases (show u = Value.ref a from r)
  obtain ⟨us, rv, pl, _⟩ := I.list hx
  have hsz : us.toArray.size = xs.length := by rw [List.size_toArray, rv.length]
  by_cases h2 : xs.length < 2
  · refine wpAny_matchCases_cons (PySem.W.kun_fewL pl.isList (by rw [hsz]; exact fit63 hz) (i := 2) rfl (show 1 < 3 by decide) (by rw [hsz]; show _ < 3; omega) ?_)
    exact hc.run pins _ σ H D _ _ false (I.tok _) r (hs h2)
  · obtain ⟨x, y, t, rfl⟩ : ∃ x y t, xs = x :: y :: t := by
      match xs, h2 with
      | [], h2 => exact absurd (by decide) h2
      | [_], h2 => exact absurd (by simp) h2
      | x :: y :: t, _ => exact ⟨x, y, t, rfl⟩
    cases rv with
    | cons r1 rv =>
    cases rv with
    | cons r2 rv =>
    refine wpAny_matchCases_cons (PySem.W.kun_seqL pl.isList (by rw [hsz]; exact fit63 hz) (i := 2) rfl rfl rfl (show 1 < 3 by decide) (by rw [hsz]; show 3 ≤ _; simp) ?_)
    refine un_starL (s := { s with toks := s.toks + 1 + 1 }) pl.isList (I.ok.hd hcalm) (show 2 < 3 by decide) rfl (by rw [hsz]; show 3 ≤ _; simp) (by rw [hsz]; exact hz) fun h' tk e => ?_
    have J := laid_list (tk := tk) I e rv (by simp at hz; omega)
    refine wpAny_matchEach_cons (wpAny_matchPattern_Capture (wpAny_matchEach_cons (wpAny_matchPattern_Capture (PySem.W.kun_each (wpAny_matchEach_nil ?_)))))
    refine assignInOrder_cons (bind_nm hN n1 J.2 r1 fun s1 I1 => assignInOrder_cons (bind_nm hN n2 I1 r2 fun s2 I2 => assignInOrder_cons (bind_nm hN n3 I2 (show RelV (.ref h'.objs.size) _ from rfl) fun s3 I3 => assignInOrder_nil ?_)))
    exact guard_run hg hb hc I3 r (hl _ _ _ rfl _ J.1)
theorem pms_star1 (hN : X.N.Nodup) (hcalm : X.calm = true) (n1 : Nm X x1 i1) (n2 : Nm X x2 i2) (hg : PT X g tg) (hb : PSs X body tb) (hc : PMs X cs c) :
    PMs X (⟨.MatchSequence [.MatchAs none (some x1) p1, .MatchStar (some x2) p2] sp, some g, body⟩ :: cs) (mStar1 X.K i1 i2 tg tb c) := by
  refine ⟨fun pins s σ H D v u b I r h => ?_⟩
  obtain ⟨a, xs, rfl, hx, hz, hs, hl⟩ := h
  cases (show u = Value.ref a from r)
  obtain ⟨us, rv, pl, _⟩ := I.list hx
  have hsz : us.toArray.size = xs.length := by rw [List.size_toArray, rv.length]
  by_cases h2 : xs.length < 1
  · refine wpAny_matchCases_cons (PySem.W.kun_fewL pl.isList (by rw [hsz]; exact fit63 hz) (i := 1) rfl (show 1 < 2 by decide) (by rw [hsz]; show _ < 2; omega) ?_)
    exact hc.run pins _ σ H D _ _ false (I.tok _) r (hs h2)
  · obtain ⟨x, t, rfl⟩ : ∃ x t, xs = x :: t := by
      match xs, h2 with
      | [], h2 => exact absurd (by decide) h2
      | x :: t, _ => exact ⟨x, t, rfl⟩
    cases rv with
    | cons r1 rv =>
    refine wpAny_matchCases_cons (PySem.W.kun_seqL pl.isList (by rw [hsz]; exact fit63 hz) (i := 1) rfl rfl rfl (show 1 < 2 by decide) (by rw [hsz]; show 2 ≤ _; simp) ?_)
    refine un_starL (s := { s with toks := s.toks + 1 + 1 }) pl.isList (I.ok.hd hcalm) (show 1 < 2 by decide) rfl (by rw [hsz]; show 2 ≤ _; simp) (by rw [hsz]; exact hz) fun h' tk e => ?_
    have J := laid_list (tk := tk) I e rv (by simp at hz; omega)
    refine wpAny_matchEach_cons (wpAny_matchPattern_Capture (PySem.W.kun_each (wpAny_matchEach_nil ?_)))
    refine assignInOrder_cons (bind_nm hN n1 J.2 r1 fun s1 I1 => assignInOrder_cons (bind_nm hN n2 I1 (show RelV (.ref h'.objs.size) _ from rfl) fun s3 I3 => assignInOrder_nil ?_))
    exact guard_run hg hb hc I3 r (hl _ _ rfl _ J.1)
theorem pms_seq3 (hN : X.N.Nodup) (hcalm : X.calm = true) (n1 : Nm X x1 i1) (n2 : Nm X x2 i2) (n3 : Nm X x3 i3) (hg : PT X g tg) (hb : PSs X body tb) (hc : PMs X cs c) :
    PMs X (⟨.MatchSequence [.MatchAs none (some x1) p1, .MatchAs none (some x2) p2, .MatchAs none (some x3) p3] sp, some g, body⟩ :: cs) (mSeq3 X.K i1 i2 i3 tg tb c) := by
  refine ⟨fun pins s σ H D v u b I r h => ?_⟩
  obtain ⟨a, xs, rfl, hx, hz, hs, hl⟩ := h
  cases (show u = Value.ref a from r)
  obtain ⟨us, rv, pl, _⟩ := I.list hx
  have hsz : us.toArray.size = xs.length := by rw [List.size_toArray, rv.length]
  by_cases h2 : xs.length = 3
  · obtain ⟨x, y, z, rfl⟩ : ∃ x y z, xs = [x, y, z] := by
      match xs, h2 with
      | [x, y, z], _ => exact ⟨x, y, z, rfl⟩
    cases rv with
    | cons r1 rv =>
    cases rv with
    | cons r2 rv =>
    cases rv with
    | cons r3 rv =>
    cases rv
    refine wpAny_matchCases_cons (matchSeq_list_hit pl.isList (by rw [hsz]; exact fit63 hz) (by rw [hsz]; rfl) ?_)
    show wpAny _ _ (unpackItems (.ref a) 3 none) _ _ _
    refine items3 (s := { s with toks := s.toks + 1 + 1 }) (I.ok.hd hcalm) pl.isList rfl fun h' e => ?_
    have k : ∀ b u, s.heap.get? b = some u → h'.get? b = some u := fun b o eo => e b o (Nat.ne_of_lt (Heap.lt_size eo)) eo
    have J : Inv X pins σ H { s with heap := h', toks := s.toks + 1 + 1 } := I.kept k
    refine wpAny_matchEach_cons (wpAny_matchPattern_Capture (wpAny_matchEach_cons (wpAny_matchPattern_Capture (wpAny_matchEach_cons (wpAny_matchPattern_Capture (wpAny_matchEach_nil ?_))))))
    refine assignInOrder_cons (bind_nm hN n1 J r1 fun s1 I1 => assignInOrder_cons (bind_nm hN n2 I1 r2 fun s2 I2 => assignInOrder_cons (bind_nm hN n3 I2 r3 fun s3 I3 => assignInOrder_nil ?_)))
    exact guard_run hg hb hc I3 r (hl _ _ _ rfl)
  · refine wpAny_matchCases_cons (matchSeq_list_miss pl.isList (by rw [hsz]; exact fit63 hz) (by rw [hsz]; exact h2) ?_)
    exact hc.run pins _ σ H D _ _ false (I.tok _) r (hs h2)
end

end K08

namespace K08
open PySem PySem.Spec PyProof.Rows L2 Evl
/-! ### QuestionLines.takes_line -/
def t_QuestionLines_takes_line (K : PySem.W.Frag) {mg : Str → Option Value} (T : Txt K mg) : TS :=
  (tSeq (tMatch (tIf (tB (tCB (rIsi K) (tCons (tVar 1) (tCons (tC (.ty "str")) tNil)))) (tM1 rSplit (tVar 1) (tC (.str " "))) (tLst tNil)) (mStar2 K 2 3 4 (tTest (tOp rEq (tVar 2) (tC (.str "table")))) (tRet (tMeth T.qlC "takes_table" (sp_QuestionLines_takes_table T) [] E0 (tVar 0) (tCons (tVar 3) (tCons (tCB (rTupOf K) (tCons (tVar 4) tNil)) tNil)))) (mSeq3 K 2 3 5 (tTest (tOp rEq (tVar 2) (tC (.str "size")))) (tRet (tMeth T.qlC "takes_size" (sp_QuestionLines_takes_size T) [] E0 (tVar 0) (tCons (tVar 3) (tCons (tCl (sp_ratio_in T) (tCons (tVar 5) tNil)) tNil)))) (mStar1 K 2 4 (tTest (tOp rEq (tVar 2) (tC (.str "group")))) (tRet (tMeth T.qlC "takes_groups" (sp_QuestionLines_takes_groups T) [] E0 (tVar 0) (tCons (tCB (rTupOf K) (tCons (tVar 4) tNil)) tNil))) (fun _ => tNext)))))
    (tRet (tC (.bl false))))
/-- a line: a text, or no text -/
def LnR (K : PySem.W.Frag) (H : Hp) (v : V) : Option Str → Prop
  | some z => v = .str z ∧ lnOk z
  | none => ∃ t, (∀ H1, Ex H H1 → TyX K H1 v t) ∧ PySem.W.kitOne K t (.type "str") = some false
theorem LnR.ex {K : PySem.W.Frag} {H H' : Hp} {v : V} (e : Ex H H') : ∀ {o : Option Str}, LnR K H v o → LnR K H' v o
  | some _, h => h
  | none, ⟨t, h1, h2⟩ => ⟨t, fun H1 e1 => h1 H1 (e.trans e1), h2⟩
/-- what the words of a line make of what is told -/
noncomputable def stepWords (s : QS) : List Str → Option QS
  | w :: n :: c => if w = "table" then putTable s n c else match c with
    | [t] => if w = "size" then putSize s n (ratOf t) else if w = "group" then putGroups s [n, t] else none
    | c => if w = "group" then putGroups s (n :: c) else none
  | [w] => if w = "group" then putGroups s [] else none
  | [] => none
noncomputable def stepLine (s : QS) : Option Str → Option QS
  | some z => stepWords s (wordsOf z)
  | none => none
def sp_QuestionLines_takes_line {K : PySem.W.Frag} {mg : Str → Option Value} (T : Txt K mg) : Sp := fun vs H Q _ => ∃ (a td sd : Addr) (v : V) (H0 : Hp) (s : QS) (o : Option Str), vs = [.ref a, v] ∧ Ahead H0 H a td sd ∧ QlA T H a td sd s ∧ LnR K H v o ∧ s.tb.length ≤ 1000 ∧ s.sz.length ≤ 1000 ∧ StepQ T H0 a td sd s (stepLine s o) Q
theorem len_QuestionLines_takes_line {K : PySem.W.Frag} {mg : Str → Option Value} {T : Txt K mg} : ∀ vs H Q E, sp_QuestionLines_takes_line T vs H Q E → vs.length = 2 := fun vs H Q E ⟨_, _, _, _, _, _, _, e, _⟩ => by rw [e]; rfl
section
variable {K : PySem.W.Frag} {mg : Str → Option Value} {T : Txt K mg} {σ : L2.St} {H H0 : Hp} {a td sd c : Addr} {s : QS} {name t : Str} {cols : List Str} {i j k : Nat} {Q : VK}
theorem ql_ins {H : Hp} (h : QlA T H a td sd s) : ∃ dx fs, H a = some (.ins T.qlC dx fs) ∧ ∀ m, m ≠ ("own_tables" : Str) → m ≠ ("own_sizes" : Str) → m ≠ ("own_groups" : Str) → fs.lookup m = none := by
  obtain ⟨dx, gv, l, l2, h1, _⟩ := h
  refine ⟨dx, _, h1, fun m n1 n2 n3 => ?_⟩
  show List.lookup m [_, _, _] = none
  rw [List.lookup_cons, beq_false_of_ne n1, List.lookup_cons, beq_false_of_ne n2, List.lookup_cons, beq_false_of_ne n3]
  rfl
theorem smallW_of {l : List Str} (hl : l.length ≤ 61) (h : ∀ w ∈ l, w.length ≤ 60 ∧ PyData.strOk w = true) : SmallW l := ⟨by omega, fun z hz => ⟨by have := (h z hz).1; omega, (h z hz).2⟩⟩
theorem r_takes_table (hs : σ[0]? = some (some (.ref a))) (hi : σ[i]? = some (some (.str name))) (hj : σ[j]? = some (some (.ref c))) (hA : Ahead H0 H a td sd) (hQ : QlA T H a td sd s) (hc : H c = some (.lst (cols.map V.str))) (hn : name.length ≤ 60) (hw : SmallW cols) (hz : s.tb.length ≤ 1000) (k : StepQ T H0 a td sd s (putTable s name cols) Q) :
    tMeth T.qlC "takes_table" (sp_QuestionLines_takes_table T) [] E0 (tVar 0) (tCons (tVar i) (tCons (tCB (rTupOf K) (tCons (tVar j) tNil)) tNil)) σ H Q := by
  obtain ⟨dx, fs, h1, h2⟩ := ql_ins hQ
  refine ev_var hs H (Ex.refl H) _ fun H1 e1 => ⟨a, dx, fs, rfl, e1 _ _ h1, h2 _ (by decide) (by decide) (by decide), ?_⟩
  refine ev_var hi H1 (Ex.refl _) _ fun H2 e2 => (eu_tupN' (ev_var hj) (SqL.of hc)) H2 (e1.trans e2) _ fun p H3 hp e3 hx => ?_
  have e := (e1.trans e2).trans e3
  exact ⟨a, td, sd, p, H0, s, name, cols, rfl, hA.go e, hQ.ex e, hx, by omega, hw, hz, k⟩
theorem r_takes_groups (hs : σ[0]? = some (some (.ref a))) (hj : σ[j]? = some (some (.ref c))) (hA : Ahead H0 H a td sd) (hQ : QlA T H a td sd s) (hc : H c = some (.lst (cols.map V.str))) (hw : SmallW cols) (k : StepQ T H0 a td sd s (putGroups s cols) Q) :
    tMeth T.qlC "takes_groups" (sp_QuestionLines_takes_groups T) [] E0 (tVar 0) (tCons (tCB (rTupOf K) (tCons (tVar j) tNil)) tNil) σ H Q := by
  obtain ⟨dx, fs, h1, h2⟩ := ql_ins hQ
  refine ev_var hs H (Ex.refl H) _ fun H1 e1 => ⟨a, dx, fs, rfl, e1 _ _ h1, h2 _ (by decide) (by decide) (by decide), ?_⟩
  refine (eu_tupN' (ev_var hj) (SqL.of hc)) H1 e1 _ fun p H3 hp e3 hx => ?_
  have e := e1.trans e3
  exact ⟨a, td, sd, p, H0, s, cols, rfl, hA.go e, hQ.ex e, hx, hw, k⟩
theorem eq_ratio_in (hi : σ[i]? = some (some (.str t))) (hz : t.length ≤ 60) : EvQ (tCl (sp_ratio_in T) (tCons (tVar i) tNil)) σ H (fun v H' => optR T.Ratio.C H' v (ratOf t)) := fun H1 e Q q =>
  (ea_cons (ev_var hi) ea_nil) H1 e _ fun H2 e2 => ⟨t, rfl, hz, fun p q' hr b H3 e3 hb => q _ _ (e2.trans e3) (by rw [ratOf_some hr]; exact ⟨b, rfl, hb⟩), fun hn H3 e3 => q _ _ (e2.trans e3) (by rw [ratOf_none hn]; rfl)⟩
theorem r_takes_size (hs : σ[0]? = some (some (.ref a))) (hi : σ[i]? = some (some (.str name))) (hj : σ[j]? = some (some (.str t))) (hA : Ahead H0 H a td sd) (hQ : QlA T H a td sd s) (hn : name.length ≤ 60) (ht : t.length ≤ 60) (hz : s.sz.length ≤ 1000) (k : StepQ T H0 a td sd s (putSize s name (ratOf t)) Q) :
    tMeth T.qlC "takes_size" (sp_QuestionLines_takes_size T) [] E0 (tVar 0) (tCons (tVar i) (tCons (tCl (sp_ratio_in T) (tCons (tVar j) tNil)) tNil)) σ H Q := by
  obtain ⟨dx, fs, h1, h2⟩ := ql_ins hQ
  refine ev_var hs H (Ex.refl H) _ fun H1 e1 => ⟨a, dx, fs, rfl, e1 _ _ h1, h2 _ (by decide) (by decide) (by decide), ?_⟩
  refine ev_var hi H1 (Ex.refl _) _ fun H2 e2 => (eq_ratio_in hj ht) H2 (e1.trans e2) _ fun v H3 e3 hv => ?_
  have e := (e1.trans e2).trans e3
  exact ⟨a, td, sd, v, H0, s, name, ratOf t, rfl, hA.go e, hQ.ex e, hv, by omega, hz, k⟩
end
theorem pure_QuestionLines_takes_line {K : PySem.W.Frag} {mg : Str → Option Value} (T : Txt K mg) {vs : List V} {H : Hp} {Q : VK} {E : XK} (h : sp_QuestionLines_takes_line T vs H Q E) : t_QuestionLines_takes_line K T { nx := fun _ H' => Q .non H', rt := Q } (start ["self", "line", "word", "name", "columns", "text"] vs) H := by
  obtain ⟨a, td, sd, v, H0, s, o, rfl, hA, hQ, hv, hz1, hz2, k⟩ := h
  have hb : Ev (tCB (rIsi K) (tCons (tVar 1) (tCons (tC (.ty "str")) tNil))) (start ["self", "line", "word", "name", "columns", "text"] [.ref a, v]) H (.bl o.isSome) := by
    cases o with
    | none => obtain ⟨t, h1, h2⟩ := hv; exact ev_isi (ev_var rfl) ev_c (.ty _) h1 h2
    | some z => obtain ⟨rfl, _⟩ := hv; exact ev_isi (ev_var rfl) ev_c (.ty _) (fun _ _ => .base (.str z)) (kit_ty (r := true) (by decide +kernel))
  have hl : EvL (tIf (tB (tCB (rIsi K) (tCons (tVar 1) (tCons (tC (.ty "str")) tNil)))) (tM1 rSplit (tVar 1) (tC (.str " "))) (tLst tNil)) (start ["self", "line", "word", "name", "columns", "text"] [.ref a, v]) H (((o.map wordsOf).getD []).map V.str) := fun H1 e1 Q1 q1 => by
    refine et_B hb H1 e1 _ fun H2 e2 => ?_
    cases o with
    | none => exact el_lst ea_nil (by decide) H2 (e1.trans e2) Q1 fun p H3 hp e3 hx => q1 p H3 (fresh_back e2 hp) (e2.trans e3) hx
    | some z =>
      obtain ⟨rfl, hln⟩ := hv
      exact el_split (ev_var rfl) ev_c rfl (by have := hln.1; omega) H2 (e1.trans e2) Q1 fun p H3 hp e3 hx => q1 p H3 (fresh_back e2 hp) (e2.trans e3) hx
  have hws : ((o.map wordsOf).getD []).length ≤ 61 ∧ ∀ w ∈ (o.map wordsOf).getD [], w.length ≤ 60 ∧ PyData.strOk w = true := by
    cases o with
    | none => exact ⟨by simp, fun w hw => nomatch hw⟩
    | some z => exact words_ok hv.2
  have hstep : stepLine s o = stepWords s ((o.map wordsOf).getD []) := by cases o <;> rfl
  rw [hstep] at k
  generalize (o.map wordsOf).getD [] = ws at *
  refine hl H (Ex.refl H) _ fun p H1 hp e1 hx => ?_
  have hlen : (ws.map V.str).length ≤ 16384 := by rw [List.length_map]; omega
  have no : ∀ {σ : L2.St} {H2 : Hp}, Ex H1 H2 → stepWords s ws = none → tRet (tC (.bl false)) { nx := fun _ H' => Q .non H', rt := Q } σ H2 := fun e2 hn => s_ret ev_c fun H3 e3 => (k H3 (((hA.e.trans e1).trans e2).trans e3)).2 hn (hQ.ex ((e1.trans e2).trans e3))
  have goS : ∀ {H2 : Hp}, Ex H1 H2 → Ahead H0 H2 a td sd ∧ QlA T H2 a td sd s := fun e2 => ⟨hA.go (e1.trans e2), hQ.ex (e1.trans e2)⟩
  have tst : ∀ {σ : L2.St} {H2 : Hp} {w : Str} {m : Str}, σ[2]? = some (some (.str w)) → EvT (tTest (tOp rEq (tVar 2) (tC (.str m)))) σ H2 (decide (w = m)) := fun hs => et_is (et_test (ev_op (ev_var hs) ev_c (rv_eq rfl))) str_eq_bl
  have third : ∀ (σ : L2.St) (H2 : Hp), Ex H1 H2 → σ.length = 6 → σ[0]? = some (some (.ref a)) → (∀ w r, ws = w :: r → (w = "table" → r = []) ∧ (w = "size" → r.length ≠ 2)) →
      mStar1 K 2 4 (tTest (tOp rEq (tVar 2) (tC (.str "group")))) (tRet (tMeth T.qlC "takes_groups" (sp_QuestionLines_takes_groups T) [] E0 (tVar 0) (tCons (tCB (rTupOf K) (tCons (tVar 4) tNil)) tNil))) (fun _ => tNext) (.ref p) { nx := fun σ H => tRet (tC (.bl false)) { nx := fun _ H' => Q .non H', rt := Q } σ H, rt := Q } σ H2 := by
    intro σ H2 e2 hσ h0 hno
    refine ⟨p, ws.map V.str, rfl, SqL.of (e2 _ _ hx), hlen, fun hl0 => no (σ := σ) e2 ?_, fun x r hxr q hq => ?_⟩
    · cases ws with
      | nil => rfl
      | cons _ _ => simp at hl0
    · cases ws with
      | nil => cases hxr
      | cons w r' =>
      cases hxr
      have e3 := e2.trans (Ex.new (o := .lst (r'.map V.str)) hq)
      refine tst (w := w) (by rw [List.getElem?_set_ne (by decide), List.getElem?_set_self (by omega)]) _ (Ex.refl _) _ fun H3 e4 => ?_
      have hst : stepWords s (w :: r') = if w = "group" then putGroups s r' else none := by
        obtain ⟨n1, n2⟩ := hno w r' rfl
        match r', n1, n2 with
        | [], _, _ => rfl
        | n :: c, n1, n2 =>
          show (if w = "table" then putTable s n c else _) = _
          rw [if_neg fun hh => nomatch n1 hh]
          match c, n2 with
          | [t], n2 =>
            show (if w = "size" then _ else _) = _
            rw [if_neg fun hh => n2 hh rfl]
          | [], _ => rfl
          | _ :: _ :: _, _ => rfl
      by_cases hg : w = "group"
      · rw [if_pos (decide_eq_true hg)]
        rw [hst, if_pos hg] at k
        exact r_takes_groups (by rw [List.getElem?_set_ne (by decide), List.getElem?_set_ne (by decide)]; exact h0) (List.getElem?_set_self (by rw [List.length_set]; omega)) (goS (e3.trans e4)).1 (goS (e3.trans e4)).2 (e4 _ _ upd_same) (smallW_of (by have := hws.1; simp at this; omega) fun z hz => hws.2 z (List.mem_cons_of_mem _ hz)) k
      · rw [if_neg (by simpa using hg)]
        exact no (σ := σ) (e3.trans e4) (by rw [hst, if_neg hg])
  have second : ∀ (σ : L2.St) (H2 : Hp), Ex H1 H2 → σ.length = 6 → σ[0]? = some (some (.ref a)) → (∀ w r, ws = w :: r → (w = "table" → r = [])) →
      mSeq3 K 2 3 5 (tTest (tOp rEq (tVar 2) (tC (.str "size")))) (tRet (tMeth T.qlC "takes_size" (sp_QuestionLines_takes_size T) [] E0 (tVar 0) (tCons (tVar 3) (tCons (tCl (sp_ratio_in T) (tCons (tVar 5) tNil)) tNil))))
        (mStar1 K 2 4 (tTest (tOp rEq (tVar 2) (tC (.str "group")))) (tRet (tMeth T.qlC "takes_groups" (sp_QuestionLines_takes_groups T) [] E0 (tVar 0) (tCons (tCB (rTupOf K) (tCons (tVar 4) tNil)) tNil))) (fun _ => tNext)) (.ref p) { nx := fun σ H => tRet (tC (.bl false)) { nx := fun _ H' => Q .non H', rt := Q } σ H, rt := Q } σ H2 := by
    intro σ H2 e2 hσ h0 hno
    refine ⟨p, ws.map V.str, rfl, SqL.of (e2 _ _ hx), hlen, fun hl3 => third σ H2 e2 hσ h0 fun w r hwr => ⟨hno w r hwr, fun _ hr => ?_⟩, fun x y z hxyz => ?_⟩
    · subst hwr
      simp [hr] at hl3
    · obtain ⟨w, n, t, rfl⟩ : ∃ w n t, ws = [w, n, t] := by
        have hl := congrArg List.length hxyz
        rw [List.length_map] at hl
        match ws, hl with
        | [w, n, t], _ => exact ⟨w, n, t, rfl⟩
      cases hxyz
      have hσ' : ∀ m : Nat, m ≠ 2 → m ≠ 3 → m ≠ 5 → (((σ.set 2 (some (.str w))).set 3 (some (.str n))).set 5 (some (.str t)))[m]? = σ[m]? := fun m a1 a2 a3 => by
        rw [List.getElem?_set_ne (Ne.symm a3), List.getElem?_set_ne (Ne.symm a2), List.getElem?_set_ne (Ne.symm a1)]
      refine tst (w := w) (by rw [List.getElem?_set_ne (by decide), List.getElem?_set_ne (by decide), List.getElem?_set_self (by omega)]) _ (Ex.refl _) _ fun H3 e4 => ?_
      have hnt : w ≠ "table" := fun hh => nomatch hno w [n, t] rfl hh
      by_cases hg : w = "size"
      · rw [if_pos (decide_eq_true hg)]
        have hst : stepWords s [w, n, t] = putSize s n (ratOf t) := by
          show (if w = "table" then _ else (if w = "size" then _ else _)) = _
          rw [if_neg hnt, if_pos hg]
        rw [hst] at k
        exact r_takes_size (by rw [hσ' 0 (by decide) (by decide) (by decide)]; exact h0) (by rw [List.getElem?_set_ne (by decide), List.getElem?_set_self (by rw [List.length_set]; omega)]) (List.getElem?_set_self (by rw [List.length_set, List.length_set]; omega)) (goS (e2.trans e4)).1 (goS (e2.trans e4)).2 (hws.2 n (by simp)).1 (hws.2 t (by simp)).1 hz2 k
      · rw [if_neg (by simpa using hg)]
        exact third _ H3 (e2.trans e4) (by simp [hσ]) (by rw [hσ' 0 (by decide) (by decide) (by decide)]; exact h0) fun w' r hwr => ⟨hno w' r hwr, fun hh => by cases hwr; exact absurd hh hg⟩
  refine ⟨p, ws.map V.str, rfl, SqL.of hx, hlen, fun hl2 => second _ H1 (Ex.refl _) rfl rfl fun w r hwr _ => ?_, fun x y r hxr q hq => ?_⟩
  · subst hwr
    cases r with
    | nil => rfl
    | cons _ _ => simp at hl2; omega
  · obtain ⟨w, n, c, rfl⟩ : ∃ w n c, ws = w :: n :: c := by
      have hl := congrArg List.length hxr
      rw [List.length_map] at hl
      match ws, hl with
      | w :: n :: c, _ => exact ⟨w, n, c, rfl⟩
      | [], hl => simp at hl
      | [_], hl => simp at hl
    cases hxr
    have e3 := Ex.new (H := H1) (o := .lst (c.map V.str)) hq
    refine tst (w := w) rfl _ (Ex.refl _) _ fun H3 e4 => ?_
    by_cases hg : w = "table"
    · rw [if_pos (decide_eq_true hg)]
      have hst : stepWords s (w :: n :: c) = putTable s n c := by
        show (if w = "table" then _ else _) = _
        rw [if_pos hg]
      rw [hst] at k
      exact r_takes_table rfl rfl rfl (goS (e3.trans e4)).1 (goS (e3.trans e4)).2 (e4 _ _ upd_same) (hws.2 n (by simp)).1 (smallW_of (by have := hws.1; simp at this; omega) fun z hz => hws.2 z (List.mem_cons_of_mem _ (List.mem_cons_of_mem _ hz))) hz1 k
    · rw [if_neg (by simpa using hg)]
      exact second _ H3 (e3.trans e4) rfl rfl fun w' r hwr hh => by cases hwr; exact absurd hh hg
theorem sc_QuestionLines_takes_line : FnScope ["self", "line", "word", "name", "columns", "text"] ["self", "line"] (defScope s_QuestionLines_takes_line) := ⟨rfl, rfl, rfl, by decide +kernel, rfl, by decide +kernel, by decide +kernel⟩
theorem d_QuestionLines_takes_line {P : Program} {w : World} {K : PySem.W.Frag} {mg : Str → Option Value} {base : Heap} (T : Txt K mg) {f : Addr} {cdv : Value} {A : Around} {outer : List Env} {s : Shared} {H : Hp} {E : XK} (hr : Room 5 (A.deeper (envOfC "QuestionLines.takes_line" (defScope s_QuestionLines_takes_line) s.heap.objs.size f cdv))) :
    PSs (cxOf CX0 P w K mg base ["self", "line", "word", "name", "columns", "text"] "QuestionLines.takes_line" (defScope s_QuestionLines_takes_line) f cdv A outer s H E).nox (defBody s_QuestionLines_takes_line) (t_QuestionLines_takes_line K T) := by
  have hu := hu_of hr
  exact (pss_cons (ps_match (pe_ifExp (pt_val (pe_callB call_isi (by rfl) T.b_isinstance (by decide +kernel) (pa_cons (pv 1) (pa_cons (pe_ty T.b_str) pa_nil)))) (pe_split (pv 1) pe_str) (pe_lst pa_nil)) (pms_star2 sc_QuestionLines_takes_line.nd rfl ⟨rfl, rfl⟩ ⟨rfl, rfl⟩ ⟨rfl, rfl⟩ (pt_cmpR op_eq (pv 2) (pe_k T.k_TABLE) (nomark _)) (pss_one (ps_ret (pe_meth (pv 0) T.qlCls T.QuestionLines_takes_table.m (ok_QuestionLines_takes_table T) (hr.mono (by decide)) (b_QuestionLines_takes_table T) .nil pass0 (pa_cons (pv 3) (pa_cons (pe_callTy call_tuple_of (by rfl) T.b_tuple (by decide +kernel) (pa_cons (pv 4) pa_nil)) pa_nil))))) (pms_seq3 sc_QuestionLines_takes_line.nd rfl ⟨rfl, rfl⟩ ⟨rfl, rfl⟩ ⟨rfl, rfl⟩ (pt_cmpR op_eq (pv 2) (pe_k T.k_SIZE) (nomark _)) (pss_one (ps_ret (pe_meth (pv 0) T.qlCls T.QuestionLines_takes_size.m (ok_QuestionLines_takes_size T) (hr.mono (by decide)) (b_QuestionLines_takes_size T) .nil pass0 (pa_cons (pv 3) (pa_cons (pe_cl (cl_ratio_in T) hr (pa_cons (pv 5) pa_nil)) pa_nil))))) (pms_star1 sc_QuestionLines_takes_line.nd rfl ⟨rfl, rfl⟩ ⟨rfl, rfl⟩ (pt_cmpR op_eq (pv 2) (pe_k T.k_GROUP) (nomark _)) (pss_one (ps_ret (pe_meth (pv 0) T.qlCls T.QuestionLines_takes_groups.m (ok_QuestionLines_takes_groups T) (hr.mono (by decide)) (b_QuestionLines_takes_groups T) .nil pass0 (pa_cons (pe_callTy call_tuple_of (by rfl) T.b_tuple (by decide +kernel) (pa_cons (pv 4) pa_nil)) pa_nil)))) pms_nil))))
      (pss_one (ps_ret pe_bl)))
theorem ok_QuestionLines_takes_line {P : Program} {w : World} {K : PySem.W.Frag} {mg : Str → Option Value} {base : Heap} (T : Txt K mg) : FnOk P w K mg base CX0 6 T.QuestionLines_takes_line.f T.QuestionLines_takes_line.fd ["self", "line"] (sp_QuestionLines_takes_line T) :=
  ok0 T.QuestionLines_takes_line.F sc_QuestionLines_takes_line len_QuestionLines_takes_line fun cdv A outer s H vs Q E hr h => ⟨t_QuestionLines_takes_line K T, d_QuestionLines_takes_line T hr, pure_QuestionLines_takes_line T h⟩
theorem b_QuestionLines_takes_line {K : PySem.W.Frag} {mg : Str → Option Value} (T : Txt K mg) : Binds K T.QuestionLines_takes_line.fd ["self", "line"] [] := T.QuestionLines_takes_line.F.bindsN fun _ _ _ _ _ _ us hl => match us, hl with | [_, _], _ => rfl
theorem r_QuestionLines_takes_line {P : Program} {w : World} {K : PySem.W.Frag} {mg : Str → Option Value} {base : Heap} (T : Txt K mg) : FnR P w K mg base CX0 6 T.QuestionLines_takes_line.f (sp_QuestionLines_takes_line T) := fnr_of (ok_QuestionLines_takes_line T) (T.QuestionLines_takes_line.F.bindsN fun _ _ _ _ _ _ us hl => match us, hl with | [_, _], _ => rfl)

end K08

namespace K08
open PySem PySem.Spec PyProof.Rows L2 Evl
/-! ### Question -/
section
variable {K : PySem.W.Frag} {σ : L2.St} {H H' H1 : Hp} {te tv ta tb : TE} {t : TT} {wi : TI} {a C dx p : Addr} {i : Nat} {vs : List (Option V)} {f : Str} {D : Ends} {tz : TS} {l : List (Str × V)} {xs ys zs : List V} {ps : List (V × V)} {tr : TA}
theorem q_slotD (hv : EvD tv σ H l) (ha : Ev ta σ H (.ref a)) (hs : SlX.Slt H a C dx vs) (c : SlX.SCls K C) (t : SlX.Slot1 K C f p i) (k : ∀ q H1, H q = none → Ex H H1 → H1 q = some (.dK (kS l)) → tz D σ (SlX.slH H1 a C dx (SlX.putS i (.ref q) vs))) : tSeq (SlX.sSl K ta tv f) tz D σ H :=
  hv H (Ex.refl H) _ fun q H1 hq e1 hx => ha H1 e1 _ fun H2 e2 => ⟨a, C, dx, p, vs, i, rfl, slt_ex (e1.trans e2) hs, c, t, k q H2 hq (e1.trans e2) (e2 _ _ hx)⟩
theorem q_slotU (hv : EvU tv σ H xs) (ha : Ev ta σ H (.ref a)) (hs : SlX.Slt H a C dx vs) (c : SlX.SCls K C) (t : SlX.Slot1 K C f p i) (k : ∀ q H1, H q = none → Ex H H1 → H1 q = some (.tup xs) → tz D σ (SlX.slH H1 a C dx (SlX.putS i (.ref q) vs))) : tSeq (SlX.sSl K ta tv f) tz D σ H :=
  hv H (Ex.refl H) _ fun q H1 hq e1 hx => ha H1 e1 _ fun H2 e2 => ⟨a, C, dx, p, vs, i, rfl, slt_ex (e1.trans e2) hs, c, t, k q H2 hq (e1.trans e2) (e2 _ _ hx)⟩
theorem s_slotU (hv : EvU tv σ H xs) (ha : Ev ta σ H (.ref a)) (hs : SlX.Slt H a C dx vs) (c : SlX.SCls K C) (t : SlX.Slot1 K C f p i) (k : ∀ q H1, H q = none → Ex H H1 → H1 q = some (.tup xs) → D.nx σ (SlX.slH H1 a C dx (SlX.putS i (.ref q) vs))) : SlX.sSl K ta tv f D σ H :=
  hv H (Ex.refl H) _ fun q H1 hq e1 hx => ha H1 e1 _ fun H2 e2 => ⟨a, C, dx, p, vs, i, rfl, slt_ex (e1.trans e2) hs, c, t, k q H2 hq (e1.trans e2) (e2 _ _ hx)⟩
theorem ea_starT (h : Ev te σ H (.ref p)) (hx : SqT K H p xs) (r : EvA tr σ H ys) : EvA (StX.tStar K te tr) σ H (xs ++ ys) := fun H1 e Q q => h H1 e _ fun H2 e2 => ⟨p, xs, rfl, .inl (ex_t (e.trans e2) hx), r H2 (e.trans e2) _ fun H3 e3 => q H3 (e2.trans e3)⟩
theorem ea_starL (h : Ev te σ H (.ref p)) (hx : SqL K H p xs) (r : EvA tr σ H ys) : EvA (StX.tStar K te tr) σ H (xs ++ ys) := fun H1 e Q q => h H1 e _ fun H2 e2 => ⟨p, xs, rfl, .inr (ex_l (e.trans e2) hx), r H2 (e.trans e2) _ fun H3 e3 => q H3 (e2.trans e3)⟩
theorem eu_if {b : Bool} (h : EvT t σ H b) (h1 : b = true → EvU ta σ H xs) (h2 : b = false → EvU tb σ H xs) : EvU (tIf t ta tb) σ H xs := fun H1 e Q q => h H1 e _ fun H2 e2 => by
  cases b with
  | true => exact h1 rfl H2 (e.trans e2) Q fun p H3 hp e3 hx => q p H3 (fresh_back e2 hp) (e2.trans e3) hx
  | false => exact h2 rfl H2 (e.trans e2) Q fun p H3 hp e3 hx => q p H3 (fresh_back e2 hp) (e2.trans e3) hx
/-- l.extend(a new list) -/
theorem q_extN {d : Addr} (ho : Ev ta σ H (.ref d)) (h : H d = some (.lst xs)) (hb : EvL te σ H ys) (hz : xs.length + ys.length ≤ 100000) (k : ∀ H1, Ex H H1 → tz D σ (upd H1 d (.lst (xs ++ ys)))) : tSeq (tDrop (tBM K "list" rExtend ta (tCons te tNil))) tz D σ H :=
  ho H (Ex.refl H) _ fun H1 e1 => ⟨.inl ⟨rfl, xs, SqL.of (e1 _ _ h)⟩, hb H1 e1 _ fun p H2 hp e2 hx => ⟨d, p, xs, ys, rfl, rfl, e2 _ _ (e1 _ _ h), hx, sz_of hz, k H2 (e1.trans e2)⟩⟩
theorem el_filterP {i1 i2 : Nat} {ws : List Nat} (f : V × V → Bool) (g : V × V → V) (h : SrcP wi σ H ps) (hz : ps.length ≤ 40000) (hw : ∀ x y, wipe (((wipe σ ws).set i1 (some x)).set i2 (some y)) ws = wipe σ ws)
    (ht : ∀ (q : V × V) H1, Ex H H1 → q ∈ ps → EvT t (((wipe σ ws).set i1 (some q.1)).set i2 (some q.2)) H1 (f q)) (he : ∀ (q : V × V) H1, Ex H H1 → q ∈ ps → f q = true → Ev te (((wipe σ ws).set i1 (some q.1)).set i2 (some q.2)) H1 (g q)) : EvL (tLc wi (gPair K i1 i2) t te ws) σ H ((ps.filter f).map g) := by
  rw [← given_filter ps f g (.non, .non)]
  exact el_lcP _ _ h hz hw (fun i x H1 e hx => by rw [getD_at hx]; exact ht x H1 e (List.mem_of_getElem? hx)) fun i x H1 e hx hf => by
    rw [getD_at hx] at hf ⊢
    exact he x H1 e (List.mem_of_getElem? hx) hf
/-- what is known beside the instance at x -/
def Bx (H : Hp) (x dx : Addr) : Hp := del (del H x) dx
theorem bx_at {b : Addr} {o : HO} (h : H b = some o) (h1 : b ≠ a) (h2 : b ≠ dx) : Bx H a dx b = some o := by
  unfold Bx
  rw [del_ne h2, del_ne h1]
  exact h
theorem bx_x : Bx H a dx a = none := by
  unfold Bx
  by_cases h : a = dx
  · subst h; exact del_same
  · rw [del_ne h]; exact del_same
theorem bx_d : Bx H a dx dx = none := del_same
theorem bx_ex : Ex (Bx H a dx) H := fun b o hb => by
  unfold Bx at hb
  by_cases h2 : b = dx
  · subst h2; rw [del_same] at hb; cases hb
  · rw [del_ne h2] at hb
    by_cases h1 : b = a
    · subst h1; rw [del_same] at hb; cases hb
    · rw [del_ne h1] at hb; exact hb
theorem ex_bx (e : Ex H' H) (h1 : H' a = none) (h2 : H' dx = none) : Ex H' (Bx H a dx) := fun b o hb => bx_at (e _ _ hb) (ne_of_none hb h1) (ne_of_none hb h2)
end
theorem pe_fmtO {X : Cx} {CX : CXT} {C g : Addr} {n : Nat} {sp : Sp} {E : XK} {e : Expr} {te : TE} {pos : Pos} (hfm : PySem.W.findIn X.K (.ref C) "__format__" = some (some (.builtin "object.__format__"))) (hm : PySem.W.mroIn X.K C (.type "object") = some true) (m : Meth X.K C "__str__" g) (F : FnR X.prog X.w X.K X.mg X.base CX n g sp) (hr : Room (n + 1) X.A) (hx : Passes CX X E) (he : PE X e te) : PE X (.FormattedValue e (-1) none pos) (tFmtOwn C sp E te) :=
  pe_fmtOwn he hfm hm m F hr hx
/-! the lines of a question -/
def sizeOf' (sz : Sizs0) (n : Str) : Int × Int := (sz.lookup n).getD (1, 1)
def tableText (n : Str) (c : List Str) : Str := Txt.join " " ("table" :: n :: c)
def sizeText (n : Str) (z : Int × Int) : Str := "size" ++ (" " ++ (n ++ (" " ++ ratText z.1 z.2)))
def groupText (g : List Str) : Str := Txt.join " " ("group" :: g)
def namesOf' (tb : Tabs0) : List Str := setSort (tb.map (·.1))
def linesOf (tb : Tabs0) (g : List Str) (sz : Sizs0) : List Str :=
  (namesOf' tb).map (fun n => tableText n (colOf tb n)) ++ ((namesOf' tb).filter fun n => !decide (sizeOf' sz n = (1, 1))).map (fun n => sizeText n (sizeOf' sz n)) ++ (if g = [] then [] else [groupText g])
/-- a Question with these lines -/
def QuA {K : PySem.W.Frag} {mg : Str → Option Value} (T : Txt K mg) (H : Hp) (a : Addr) (ls : List Str) : Prop := ∃ (dx t : Addr) (vs : List (Option V)), SlX.Slt H a T.Question.C dx vs ∧ vs[2]? = some (some (.ref t)) ∧ H t = some (.tup (ls.map V.str))
theorem qu_ex {K : PySem.W.Frag} {mg : Str → Option Value} {T : Txt K mg} {H H' : Hp} {a : Addr} {ls : List Str} (e : Ex H H') (h : QuA T H a ls) : QuA T H' a ls := by
  obtain ⟨dx, t, vs, h1, h2, h3⟩ := h
  exact ⟨dx, t, vs, slt_ex e h1, h2, e _ _ h3⟩

end K08

namespace K08
open PySem PySem.Spec PyProof.Rows L2 Evl
theorem isName_len {z : Str} (h : isName z = true) : z.length ≤ 8 := by
  unfold isName at h
  simp only [Bool.and_eq_true, decide_eq_true_eq] at h
  omega
theorem slt_upd {H : Hp} {a C dx b : Addr} {vs : List (Option V)} {u : HO} (h : SlX.Slt H a C dx vs) (h1 : b ≠ a) (h2 : b ≠ dx) : SlX.Slt (upd H b u) a C dx vs := by
  rcases h with ⟨h3, h4⟩ | ⟨h3, h4⟩
  · exact .inl ⟨by rw [upd_ne (Ne.symm h1)]; exact h3, h4⟩
  · exact .inr ⟨by rw [upd_ne (Ne.symm h1)]; exact h3, by rw [upd_ne (Ne.symm h2)]; exact h4⟩
theorem rat_bx {C C' : Addr} {H : Hp} {a x dx : Addr} {p q : Int} {fs : List (Str × V)} (h : RatA C H a p q) (hx : H x = some (.ins C' dx fs)) (hd : H dx = some (.own x)) : RatA C (Bx H x dx) a p q := by
  obtain ⟨d, hs⟩ := h
  refine ⟨d, ?_⟩
  rcases hs with ⟨h3, h4⟩ | ⟨h3, h4⟩
  · cases h4
  · have n1 : a ≠ x := fun e => by subst e; rw [h3] at hx; exact absurd (Option.some.inj hx) (fun z => nomatch z)
    have n2 : a ≠ dx := fun e => by subst e; rw [h3] at hd; exact absurd (Option.some.inj hd) (fun z => nomatch z)
    have n3 : d ≠ x := fun e => by subst e; rw [h4] at hx; exact absurd (Option.some.inj hx) (fun z => nomatch z)
    have n4 : d ≠ dx := fun e => by subst e; rw [h4] at hd; exact absurd (Option.some.inj hd) (fun z => nomatch z)
    exact .inr ⟨bx_at h3 n1 n2, bx_at h4 n3 n4⟩
section
variable {K : PySem.W.Frag} {mg : Str → Option Value} {T : Txt K mg} {σ : L2.St} {H : Hp} {ta tb : TE} {a b : Addr} {p q p' q' : Int}
theorem ev_neRat (ha : Ev ta σ H (.ref a)) (hb : Ev tb σ H (.ref b)) (h1 : RatA T.Ratio.C H a p q) (h2 : RatA T.Ratio.C H b p' q') : Ev (tOp (rNeOwn K T.Ratio.C (sp_Ratio_eq T.Ratio.C) E0) ta tb) σ H (.bl (!decide ((p, q) = (p', q')))) := fun H1 e Q k =>
  ha H1 e _ fun H2 e2 => hb H2 (e.trans e2) _ fun H3 e3 => by
    have e4 := (e.trans e2).trans e3
    obtain ⟨da, sa⟩ := rat_ex e4 h1
    obtain ⟨db, sb⟩ := rat_ex e4 h2
    refine ⟨a, da, _, b, _, db, _, rfl, rfl, sa, sb, T.ratNF, a, b, p, q, p', q', rfl, ⟨da, sa⟩, ⟨db, sb⟩, fun H' e' => ⟨_, rfl, ?_⟩⟩
    have hd : (decide (p = p') && decide (q = q')) = decide ((p, q) = (p', q')) := by
      rw [← Bool.decide_and]
      exact decide_eq_decide.mpr ⟨fun ⟨x, y⟩ => by rw [x, y], fun h => ⟨congrArg Prod.fst h, congrArg Prod.snd h⟩⟩
    rw [hd]
    exact k H' ((e2.trans e3).trans e')
theorem ev_fmtRat (ha : Ev ta σ H (.ref a)) (h : RatA T.Ratio.C H a p q) (hp : okInt p) (hq : okInt q) : Ev (tFmtOwn T.Ratio.C (sp_Ratio_str T.Ratio.C) E0 ta) σ H (.str (ratText p q)) := fun H1 e Q k =>
  ha H1 e _ fun H2 e2 => by
    obtain ⟨dx, hs⟩ := rat_ex (e.trans e2) h
    exact ⟨a, dx, _, rfl, hs, a, p, q, rfl, ⟨dx, hs⟩, hp, hq, fun H' e' => ⟨_, rfl, k H' (e2.trans e')⟩⟩
theorem spv_are_parts {d g s : Addr} {l l2 : List (Str × V)} {tb : Tabs0} {gr : List Str} {sz : Sizs0} (hd : H d = some (.dK (kS l))) (hr : RelR tupR H l tb) (hn : (tb.map (·.1)).Nodup) (hs : SmallT tb) (hg : H g = some (.tup (gr.map V.str))) (hw : SmallW gr) (hd2 : H s = some (.dK (kS l2))) (hr2 : RelR (ratR T.Ratio.C) H l2 sz) (hn2 : (sz.map (·.1)).Nodup) (hz : sz.length ≤ 1000) : SpV (sp_are_parts T) [.ref d, .ref g, .ref s] H (.bl (isParts tb gr sz)) := fun H1 e Q q E =>
  ⟨d, g, s, l, l2, tb, gr, sz, rfl, e _ _ hd, hr.mono (tupR_ex e), hn, hs, e _ _ hg, hw.1, fun z hz => (hw.2 z hz).1, e _ _ hd2, hr2.mono (ratR_ex e), hn2, hz, q⟩
end
theorem some_of_mem {α : Type} {m : List (Str × α)} {n : Str} (h : n ∈ m.map (·.1)) : ∃ v, m.lookup n = some v := by
  cases hh : m.lookup n with
  | some v => exact ⟨v, rfl⟩
  | none =>
    have := isSome_mem (z := n) (m := m)
    rw [hh, decide_eq_true h] at this
    cases this
theorem isSize_ok {z : Int × Int} (h : isSize z = true) (h1 : 1 ≤ z.2) : okInt z.1 ∧ okInt z.2 := by
  unfold isSize at h
  simp only [Bool.and_eq_true, Bool.not_eq_true', decide_eq_true_eq, decide_eq_false_iff_not] at h
  have h0 : (600 : Nat) < 10 ^ 120 := by decide
  unfold okInt
  omega
theorem sizeText_eq {n t : Str} : Str.empty ++ "size" ++ " " ++ n ++ " " ++ t = "size" ++ (" " ++ (n ++ (" " ++ t))) := by
  simp only [empty_app, app_assoc]
theorem ev_neTup {K : PySem.W.Frag} {σ : L2.St} {H : Hp} {ta tb : TE} {a : Addr} {l m : List Str} (ha : Ev ta σ H (.ref a)) (hx : SqT K H a (l.map V.str)) (hb : EvU tb σ H (m.map V.str)) (h1 : ∀ z ∈ l, PyData.strOk z = true) (h2 : ∀ z ∈ m, PyData.strOk z = true) : Ev (tOp (rNeD K) ta tb) σ H (.bl (!decide (l = m))) := fun H1 e Q q =>
  ha H1 e _ fun H2 e2 => hb H2 (e.trans e2) _ fun p H3 _ e3 hp => ⟨.tuple (l.map PyData.str), .tuple (m.map PyData.str), .tup (ex_t ((e.trans e2).trans e3) hx) (dpAll_strs l), .tup (SqT.of hp) (dpAll_strs m), shaped_tup h1, shaped_tup h2, by
    rw [show PyData.eqv (.tuple (l.map PyData.str)) (.tuple (m.map PyData.str)) = decide (l = m) by rw [PyData.eqv]; exact eqvAll_strs l m]
    exact q H3 (e2.trans e3)⟩

end K08

namespace K08
open PySem PySem.Spec PyProof.Rows L2 Evl
/-! ### Question.__init__ -/
def t_Question_init (K : PySem.W.Frag) {mg : Str → Option Value} (T : Txt K mg) (E : XK) : TS :=
  (tSeq (tAsg (tIf (tTest (tOp rIsNn (tVar 3) (tC .non))) tDNewK (tVar 3)) (gName 4))
    (tSeq (tIfS (tNot (tB (tCl (sp_are_parts T) (tCons (tVar 1) (tCons (tVar 2) (tCons (tVar 4) tNil)))))) (tRaiseE (.ref T.InvalidQuestion.C) E) tNext)
    (tSeq (tAsg (tMake T.Ratio.C (sp_Ratio_init T.Ratio.C) [.bl false] E0 (tCons (tC (.int 1)) (tCons (tC (.int 1)) tNil))) (gName 5))
    (tSeq (SlX.sSl K (tVar 0) (tDc (iList K (tCB rSortedD (tCons (tVar 1) tNil))) (gName 6) tYes (tVar 6) (tDGet (tVar 1) (tVar 6)) [6]) "own_tables")
    (tSeq (SlX.sSl K (tVar 0) (tVar 2) "own_groups")
    (tSeq (SlX.sSl K (tVar 0) (tLockE (tDc (iKeys (SlX.tSl K (tVar 0) "own_tables")) (gName 6) tYes (tVar 6) (tDGet2 (tVar 4) (tVar 6) (tVar 5)) [6])) "own_sizes")
    (tSeq (SlX.sSl K (tVar 0) (tCl sp_columns_of (tCons (tVar 1) tNil)) "own_columns")
    (tSeq (tLock (tAsg (tLc (iItems (SlX.tSl K (tVar 0) "own_tables")) (gTup K 2 (gCons (gName 6) (gCons (gName 8) gNil))) tYes (tM1 (rJoin K) (tC (.str " ")) (tLst (tCons (tC (.str "table")) (tCons (tVar 6) (StX.tStar K (tVar 8) tNil))))) [6, 8]) (gName 7)))
    (tSeq (tDrop (tBM K "list" rExtend (tVar 7) (tCons (tLockE (tLc (iItems (SlX.tSl K (tVar 0) "own_sizes")) (gTup K 2 (gCons (gName 6) (gCons (gName 9) gNil))) (tTest (tOp (rNeOwn K T.Ratio.C (sp_Ratio_eq T.Ratio.C) E0) (tVar 9) (tVar 5))) (tJoined [(tFmt (tC (.str "size"))), (tC (.str " ")), (tFmt (tVar 6)), (tC (.str " ")), (tFmtOwn T.Ratio.C (sp_Ratio_str T.Ratio.C) E0 (tVar 9))]) [6, 9])) tNil)))
    (SlX.sSl K (tVar 0) (tIf (tTest (tOp (rNeD K) (tVar 2) (tTup tNil))) (tTup (StX.tStar K (tVar 7) (tCons (tM1 (rJoin K) (tC (.str " ")) (tLst (tCons (tC (.str "group")) (StX.tStar K (tVar 2) tNil)))) tNil))) (tCB (rTupOf K) (tCons (tVar 7) tNil))) "own_lines"))))))))))
def sp_Question_init {K : PySem.W.Frag} {mg : Str → Option Value} (T : Txt K mg) : Sp := fun vs H Q E => ∃ (x dx td g sd : Addr) (H0 : Hp) (l l2 : List (Str × V)) (tb : Tabs0) (gr : List Str) (sz : Sizs0), vs = [.ref x, .ref td, .ref g, .ref sd] ∧ H x = some (.ins T.Question.C dx []) ∧ H dx = some (.own x) ∧ dx ≠ x ∧ Ex H0 H ∧ H0 x = none ∧ H0 dx = none ∧
  H0 td = some (.dK (kS l)) ∧ RelR tupR H0 l tb ∧ (tb.map (·.1)).Nodup ∧ SmallT tb ∧ H0 g = some (.tup (gr.map V.str)) ∧ SmallW gr ∧ H0 sd = some (.dK (kS l2)) ∧ RelR (ratR T.Ratio.C) H0 l2 sz ∧ (sz.map (·.1)).Nodup ∧ sz.length ≤ 1000 ∧ (∀ e ∈ sz, 1 ≤ e.2.2) ∧
  (isParts tb gr sz = true → ∀ H', Ex H0 H' → QuA T H' x (linesOf tb gr sz) → Q .non H') ∧ (isParts tb gr sz = false → ∀ H', Ex H0 H' → E (.ref T.InvalidQuestion.C) none H')
theorem len_Question_init {K : PySem.W.Frag} {mg : Str → Option Value} {T : Txt K mg} : ∀ vs H Q E, sp_Question_init T vs H Q E → vs.length = 4 := fun vs H Q E ⟨_, _, _, _, _, _, _, _, _, _, _, e, _⟩ => by rw [e]; rfl
theorem pure_Question_init {K : PySem.W.Frag} {mg : Str → Option Value} (T : Txt K mg) {vs : List V} {H : Hp} {Q : VK} {E : XK} (h : sp_Question_init T vs H Q E) : t_Question_init K T E { nx := fun _ H' => Q .non H', rt := Q } (start ["self", "tables", "groups", "sizes", "told", "one", "name", "lines", "columns", "size"] vs) H := by
  obtain ⟨x, dx, td, g, sd, H0, l, l2, tb, gr, sz, rfl, hx, hdx, hne, e0, x0, d0, htd, hr, hn, hsm, hg, hw, hsd, hr2, hn2, hz2, hb2, kq, kE⟩ := h
  refine q_asg (v := .ref sd) (ev_if (b := false) (et_is (et_test (ev_op (ev_var rfl) ev_c rv_isNn)) rfl) (fun hb => nomatch hb) fun _ => ev_var rfl) fun H1 e1 => ?_
  have e01 := e0.trans e1
  refine q_when (b := !isParts tb gr sz) (et_not (et_B (ev_cl (ea_cons (ev_var rfl) (ea_cons (ev_var rfl) (ea_cons (ev_var rfl) ea_nil))) (spv_are_parts (e01 _ _ htd) (hr.mono (tupR_ex e01)) hn hsm (e01 _ _ hg) hw (e01 _ _ hsd) (hr2.mono (ratR_ex e01)) hn2 hz2)))) (fun hb H2 e2 => kE (nt hb) H2 (e01.trans e2)) fun hb H2 e2 => ?_
  have hP := nf hb
  have e02 := e01.trans e2
  -- what the parts are
  have hP' : isTables tb = true ∧ areNames gr = true ∧ (sz.all fun e => (tb.lookup e.1).isSome && isSize e.2) = true := by
    have h1 := hP
    unfold isParts at h1
    rw [Bool.and_eq_true, Bool.and_eq_true, Bool.and_eq_true] at h1
    exact ⟨h1.1.1, h1.1.2, h1.2.2⟩
  obtain ⟨hT, hG, hS⟩ := hP'
  have hT' : tb.length ≤ 6 ∧ ∀ e ∈ tb, isName e.1 = true ∧ areCols e.2 = true := by
    have h1 := hT
    unfold isTables at h1
    simp only [Bool.and_eq_true, decide_eq_true_eq] at h1
    exact ⟨h1.1.2, fun e he => by have := List.all_eq_true.mp h1.2.1 e he; rwa [Bool.and_eq_true] at this⟩
  have hname : ∀ n ∈ namesOf' tb, n ∈ tb.map (·.1) := fun n hn => mem_setSort.mp hn
  have hnlen : ∀ n ∈ namesOf' tb, n.length ≤ 8 := fun n hn' => by
    obtain ⟨e, he, rfl⟩ := List.mem_map.mp (hname n hn')
    exact isName_len (hT'.2 e he).1
  have hncount : (namesOf' tb).length ≤ 6 := by
    have := setSort_len (tb.map (·.1))
    rw [List.length_map] at this
    have := hT'.1
    unfold namesOf'
    omega
  have hcol : ∀ n ∈ namesOf' tb, (colOf tb n).length ≤ 6 ∧ ∀ z ∈ colOf tb n, z.length ≤ 8 := fun n hn' => by
    obtain ⟨e, he, rfl⟩ := List.mem_map.mp (hname n hn')
    rw [colOf_mem hn he]
    obtain ⟨_, _, a3, a4⟩ := areCols_len (hT'.2 e he).2
    exact ⟨a3, fun z hz => isName_len (List.all_eq_true.mp a4 z hz)⟩
  have hsz : ∀ n, okInt (sizeOf' sz n).1 ∧ okInt (sizeOf' sz n).2 := fun n => by
    unfold sizeOf'
    cases hl : sz.lookup n with
    | none => exact ⟨(by decide : (1 : Int).natAbs < 10 ^ 120), (by decide : (1 : Int).natAbs < 10 ^ 120)⟩
    | some z =>
      have hm := lookup_mem hl
      have h1 := List.all_eq_true.mp hS _ hm
      rw [Bool.and_eq_true] at h1
      exact isSize_ok h1.2 (hb2 _ hm)
  -- one
  refine q_asgQ (eq_makeRat T (ea_cons ev_c (ea_cons ev_c ea_nil)) (by decide) (by decide) (by decide)) fun v H3 e3 hv => ?_
  obtain ⟨o, rfl, ho⟩ := hv
  have ho : RatA T.Ratio.C H3 o 1 1 := ho
  have e03 := e02.trans e3
  have hx3 : H3 x = some (.ins T.Question.C dx []) := e3 _ _ (e2 _ _ (e1 _ _ hx))
  have hd3 : H3 dx = some (.own x) := e3 _ _ (e2 _ _ (e1 _ _ hdx))
  -- own_tables
  have hnd : (namesOf' tb).Nodup := asc_nodup (asc_setSort _)
  have hnames : (setSort (l.map (·.1))) = namesOf' tb := by rw [hr.keys]; rfl
  have get1 : ∀ n ∈ namesOf' tb, ∃ v, l.lookup n = some v ∧ tupR H0 v (colOf tb n) := fun n hn' => by
    obtain ⟨c, hc⟩ := some_of_mem (hname n hn')
    obtain ⟨v, h1, h2⟩ := hr.get hc
    refine ⟨v, h1, ?_⟩
    unfold colOf
    rw [hc]
    exact h2
  have hotl : ((namesOf' tb).map V.str).map (fun v => (strOf v, (l.lookup (strOf v)).getD .non)) = (namesOf' tb).map fun n => (n, (l.lookup n).getD .non) := by
    rw [List.map_map]
    rfl
  refine q_slotD (l := (namesOf' tb).map fun n => (n, (l.lookup n).getD .non)) (by
    rw [← hotl]
    refine ed_dc strOf (fun v => (l.lookup (strOf v)).getD .non) (src_newL (by rw [← hnames]; exact el_sortedK (ev_var rfl) (.inl (e03 _ _ htd)) (by rw [hr.keys]; exact hn) (by rw [hr.len]; omega))) (by rw [List.length_map]; omega) (by rw [cv_str]; exact hnd) (fun _ => rfl) (fun v H4 e4 hv => ?_) fun v H4 e4 hv => ?_
    · obtain ⟨n, hn', rfl⟩ := List.mem_map.mp hv
      exact ev_var rfl
    · obtain ⟨n, hn', rfl⟩ := List.mem_map.mp hv
      obtain ⟨w, h1, h2⟩ := get1 n hn'
      exact ev_dget (ev_var rfl) (ev_var rfl) (.inl (e4 _ _ (e03 _ _ htd))) (by show l.lookup n = some ((l.lookup n).getD .non); rw [h1]; rfl)) (ev_var rfl) (.inl ⟨hx3, rfl⟩) T.Question.sc T.qs4.s fun ot H4 hot e4 hot2 => ?_
  have otx : ot ≠ x := fun z => by subst z; rw [hx3] at hot; cases hot
  have otd : ot ≠ dx := fun z => by subst z; rw [hd3] at hot; cases hot
  have hx4 := e4 _ _ hx3
  have hd4 := e4 _ _ hd3
  have e04 := e03.trans e4
  have eB4 : Ex H0 (Bx H4 x dx) := ex_bx e04 x0 d0
  have oB4 := rat_bx (rat_ex e4 ho) hx4 hd4
  have tB4 : Bx H4 x dx ot = some (.dK (kS ((namesOf' tb).map fun n => (n, (l.lookup n).getD .non)))) := bx_at hot2 otx otd
  have ottd : td ≠ ot := fun z => by subst z; rw [e03 _ _ htd] at hot; cases hot
  have otsd : sd ≠ ot := fun z => by subst z; rw [e03 _ _ hsd] at hot; cases hot
  have b4 : Ex (Bx H4 x dx) (SlX.slH H4 x T.Question.C dx (SlX.putS 4 (.ref ot) [])) := slH_ex bx_ex bx_x bx_d
  generalize hB4 : Bx H4 x dx = B4 at *
  have B4x : B4 x = none := by rw [← hB4]; exact bx_x
  have B4d : B4 dx = none := by rw [← hB4]; exact bx_d
  -- own_groups
  refine q_slot (ev_var rfl) (ev_var rfl) (SlX.slH_slt hne) T.Question.sc T.qs1.s fun H5 e5 => ?_
  have b5 : Ex B4 (SlX.slH H5 x T.Question.C dx (SlX.putS 1 (.ref g) (SlX.putS 4 (.ref ot) []))) := slH_ex (b4.trans e5) B4x B4d
  have s5 : SlX.Slt (SlX.slH H5 x T.Question.C dx (SlX.putS 1 (.ref g) (SlX.putS 4 (.ref ot) []))) x T.Question.C dx (SlX.putS 1 (.ref g) (SlX.putS 4 (.ref ot) [])) := SlX.slH_slt hne
  generalize SlX.slH H5 x T.Question.C dx (SlX.putS 1 (.ref g) (SlX.putS 4 (.ref ot) [])) = G2 at *
  -- own_sizes
  have hosl : (((namesOf' tb).map fun n => (n, (l.lookup n).getD V.non)).map fun e => V.str e.1).map (fun v => (strOf v, (l2.lookup (strOf v)).getD (.ref o))) = (namesOf' tb).map fun n => (n, (l2.lookup n).getD (.ref o)) := by
    rw [List.map_map, List.map_map]
    rfl
  refine q_slotD (l := (namesOf' tb).map fun n => (n, (l2.lookup n).getD (.ref o))) (ed_lock (b5 _ _ tB4) trivial fun od => by
    rw [← hosl]
    refine ed_dc strOf (fun v => (l2.lookup (strOf v)).getD (.ref o)) (src_keys (ev_slot (ev_var rfl) (slt_upd s5 otx otd) T.Question.sc T.qs4.s rfl) upd_same) (by rw [List.length_map, List.length_map]; omega) (by rw [List.map_map, List.map_map]; show ((namesOf' tb).map fun n => n).Nodup; rw [List.map_id']; exact hnd) (fun _ => rfl) (fun v H6 e6 hv => ?_) fun v H6 e6 hv => ?_
    · obtain ⟨e, he, rfl⟩ := List.mem_map.mp hv
      exact ev_var rfl
    · obtain ⟨e, he, rfl⟩ := List.mem_map.mp hv
      refine ev_dget2 (ev_var rfl) (ev_var rfl) (ev_var rfl) (.inl (e6 _ _ ?_))
      rw [upd_ne otsd]
      exact b5 _ _ (eB4 _ _ hsd)) (ev_var rfl) s5 T.Question.sc T.qs3.s fun os H6 hos e6 hos2 => ?_
  have G2x : ∃ o, G2 x = some o := by rcases s5 with ⟨h, _⟩ | ⟨h, _⟩ <;> exact ⟨_, h⟩
  have G2d : ∃ o, G2 dx = some o := by
    rcases s5 with ⟨_, h⟩ | ⟨_, h⟩
    · cases h
    · exact ⟨_, h⟩
  have osx : os ≠ x := fun z => by subst z; rw [G2x.choose_spec] at hos; cases hos
  have osd : os ≠ dx := fun z => by subst z; rw [G2d.choose_spec] at hos; cases hos
  have eB6 : Ex B4 (Bx H6 x dx) := ex_bx (b5.trans e6) B4x B4d
  have sB6 : Bx H6 x dx os = some (.dK (kS ((namesOf' tb).map fun n => (n, (l2.lookup n).getD (.ref o))))) := bx_at hos2 osx osd
  have b6 : Ex (Bx H6 x dx) (SlX.slH H6 x T.Question.C dx (SlX.putS 3 (.ref os) (SlX.putS 1 (.ref g) (SlX.putS 4 (.ref ot) [])))) := slH_ex bx_ex bx_x bx_d
  have s6 : SlX.Slt (SlX.slH H6 x T.Question.C dx (SlX.putS 3 (.ref os) (SlX.putS 1 (.ref g) (SlX.putS 4 (.ref ot) [])))) x T.Question.C dx (SlX.putS 3 (.ref os) (SlX.putS 1 (.ref g) (SlX.putS 4 (.ref ot) []))) := SlX.slH_slt hne
  generalize SlX.slH H6 x T.Question.C dx (SlX.putS 3 (.ref os) (SlX.putS 1 (.ref g) (SlX.putS 4 (.ref ot) []))) = G3 at *
  generalize hB6 : Bx H6 x dx = B6 at *
  have B6x : B6 x = none := by rw [← hB6]; exact bx_x
  have B6d : B6 dx = none := by rw [← hB6]; exact bx_d
  have e0B6 := eB4.trans eB6
  -- own_columns
  refine q_slotU (eu_columns_of (ev_var rfl) (b6 _ _ (e0B6 _ _ htd)) (hr.mono (tupR_ex (e0B6.trans b6))) hT) (ev_var rfl) s6 T.Question.sc T.qs0.s fun q H7 hq e7 hq2 => ?_
  have b7 : Ex B6 (SlX.slH H7 x T.Question.C dx (SlX.putS 0 (.ref q) (SlX.putS 3 (.ref os) (SlX.putS 1 (.ref g) (SlX.putS 4 (.ref ot) []))))) := slH_ex (b6.trans e7) B6x B6d
  have s7 : SlX.Slt (SlX.slH H7 x T.Question.C dx (SlX.putS 0 (.ref q) (SlX.putS 3 (.ref os) (SlX.putS 1 (.ref g) (SlX.putS 4 (.ref ot) []))))) x T.Question.C dx (SlX.putS 0 (.ref q) (SlX.putS 3 (.ref os) (SlX.putS 1 (.ref g) (SlX.putS 4 (.ref ot) [])))) := SlX.slH_slt hne
  generalize SlX.slH H7 x T.Question.C dx (SlX.putS 0 (.ref q) (SlX.putS 3 (.ref os) (SlX.putS 1 (.ref g) (SlX.putS 4 (.ref ot) [])))) = G4 at *
  -- lines
  have tG4 := b7 _ _ (eB6 _ _ tB4)
  have hlt : ((((namesOf' tb).map fun n => (n, (l.lookup n).getD V.non)).map fun e => (V.str e.1, e.2)).map fun p => V.str (tableText (strOf p.1) (colOf tb (strOf p.1)))) = ((namesOf' tb).map fun n => tableText n (colOf tb n)).map V.str := by
    rw [List.map_map, List.map_map, List.map_map]
    rfl
  refine ⟨ot, _, tG4, trivial, fun od => ?_⟩
  refine s_asgL (xs := ((namesOf' tb).map fun n => tableText n (colOf tb n)).map V.str) (by
    rw [← hlt]
    refine el_mapP _ (srcP_items (ev_slot (ev_var rfl) (slt_upd s7 otx otd) T.Question.sc T.qs4.s rfl) upd_same) (by simp only [List.length_map]; omega) (fun _ _ => rfl) fun p H8 e8 hp => ?_
    obtain ⟨e, he, rfl⟩ := List.mem_map.mp hp
    obtain ⟨n, hn', rfl⟩ := List.mem_map.mp he
    obtain ⟨w, h1, t, rfl, h2⟩ := get1 n hn'
    have hto : t ≠ ot := fun z => by subst z; rw [e03 _ _ h2] at hot; cases hot
    have ht8 : H8 t = some (.tup ((colOf tb n).map V.str)) := e8 _ _ (by rw [upd_ne hto]; exact b7 _ _ (e0B6 _ _ h2))
    obtain ⟨c1, c2⟩ := hcol n hn'
    have hnl := hnlen n hn'
    refine ev_joinN (l := "table" :: n :: colOf tb n) ev_c ?_ ?_
    · have := el_lst (ea_cons (ev_c (v := V.str "table")) (ea_cons (ta := tVar 6) (x := V.str n) (σ := (((wipe ((((((start ["self", "tables", "groups", "sizes", "told", "one", "name", "lines", "columns", "size"] [.ref x, .ref td, .ref g, .ref sd]).set 4 (some (.ref sd))).set 5 (some (.ref o)))))) [6, 8]).set 6 (some (.str n))).set 8 (some ((l.lookup n).getD .non)))) (H := H8) (ev_var rfl) (ea_starT (K := K) (te := tVar 8) (ev_var (by rw [h1]; rfl)) (SqT.of ht8) ea_nil))) (by simp only [List.length_cons, List.length_append, List.length_map, List.length_nil]; omega)
      rw [List.append_nil] at this
      exact this
    · have hsum : ((colOf tb n).map (·.length)).sum ≤ (colOf tb n).length * 8 := by
        have : ∀ m : List Str, (∀ z ∈ m, z.length ≤ 8) → (m.map (·.length)).sum ≤ m.length * 8 := by
          intro m
          induction m with
          | nil => intro _; simp
          | cons y r ih =>
            intro hm
            have a1 := hm y List.mem_cons_self
            have a2 := ih fun z hz => hm z (List.mem_cons_of_mem _ hz)
            simp only [List.map_cons, List.sum_cons, List.length_cons]
            omega
        exact this _ c2
      have h5 : ("table" : Str).length = 5 := rfl
      have h1s : (" " : Str).length = 1 := rfl
      simp only [List.map_cons, List.sum_cons, List.length_cons, h5, h1s]
      omega) fun ln H8 hln e8 hln2 => ?_
  obtain ⟨lk, eM⟩ := ex_unlock tG4 e8
  have lno : ln ≠ ot := fun z => by subst z; rw [upd_same] at hln; cases hln
  have hlnG : G4 ln = none := by rw [upd_ne lno] at hln; exact hln
  have hM : upd H8 ot (.dK (kS ((namesOf' tb).map fun n => (n, (l.lookup n).getD .non)))) ln = some (.lst (((namesOf' tb).map fun n => tableText n (colOf tb n)).map V.str)) := by rw [upd_ne lno]; exact hln2
  refine ⟨lk, ?_⟩
  generalize upd H8 ot (.dK (kS ((namesOf' tb).map fun n => (n, (l.lookup n).getD .non)))) = M at *
  have G4x : ∃ o, G4 x = some o := by rcases s7 with ⟨h, _⟩ | ⟨h, _⟩ <;> exact ⟨_, h⟩
  have G4d : ∃ o, G4 dx = some o := by
    rcases s7 with ⟨_, h⟩ | ⟨_, h⟩
    · cases h
    · exact ⟨_, h⟩
  have lnx : ln ≠ x := fun z => by subst z; rw [G4x.choose_spec] at hlnG; cases hlnG
  have lnd : ln ≠ dx := fun z => by subst z; rw [G4d.choose_spec] at hlnG; cases hlnG
  have sM := slt_ex eM s7
  have bM := b7.trans eM
  have osM := bM _ _ sB6
  -- the sizes that are told
  have hsl : (((((namesOf' tb).map fun n => (n, (l2.lookup n).getD (V.ref o))).map fun e => (V.str e.1, e.2)).filter fun p => !decide (sizeOf' sz (strOf p.1) = (1, 1))).map fun p => V.str (sizeText (strOf p.1) (sizeOf' sz (strOf p.1)))) = (((namesOf' tb).filter fun n => !decide (sizeOf' sz n = (1, 1))).map fun n => sizeText n (sizeOf' sz n)).map V.str := by
    rw [List.filter_map, List.filter_map, List.map_map, List.map_map, List.map_map]
    rfl
  have osx' : os ≠ x := osx
  refine q_extN (ys := (((namesOf' tb).filter fun n => !decide (sizeOf' sz n = (1, 1))).map fun n => sizeText n (sizeOf' sz n)).map V.str) (ev_var rfl) hM (el_lock osM trivial fun od2 => by
    rw [← hsl]
    have pre : ∀ {H9 : Hp}, Ex (upd M os (.frz od2 (.dK (kS ((namesOf' tb).map fun n => (n, (l2.lookup n).getD (V.ref o))))))) H9 → ∀ n ∈ namesOf' tb, ∃ r, (l2.lookup n).getD (V.ref o) = .ref r ∧ RatA T.Ratio.C H9 r (sizeOf' sz n).1 (sizeOf' sz n).2 := fun e9 n hn' => by
      cases hl : sz.lookup n with
      | none =>
        rw [hr2.no hl]
        unfold sizeOf'
        rw [hl]
        refine ⟨o, rfl, rat_ex e9 ?_⟩
        obtain ⟨r, e, h⟩ := ratR_upd osM (.ref o) (1, 1) ⟨o, rfl, rat_ex (eB6.trans bM) oB4⟩
        cases e
        exact h
      | some z =>
        obtain ⟨v, h1, h2⟩ := hr2.get hl
        rw [h1]
        unfold sizeOf'
        rw [hl]
        obtain ⟨r, rfl, h⟩ := ratR_upd osM v z (ratR_ex (e0B6.trans bM) v z h2)
        exact ⟨r, rfl, rat_ex e9 h⟩
    have orat : ∀ {H9 : Hp}, Ex (upd M os (.frz od2 (.dK (kS ((namesOf' tb).map fun n => (n, (l2.lookup n).getD (V.ref o))))))) H9 → RatA T.Ratio.C H9 o 1 1 := fun e9 => by
      obtain ⟨r, e, h⟩ := ratR_upd osM (.ref o) (1, 1) ⟨o, rfl, rat_ex (eB6.trans bM) oB4⟩
      cases e
      exact rat_ex e9 h
    refine el_filterP _ _ (srcP_items (ev_slot (ev_var rfl) (slt_upd sM osx osd) T.Question.sc T.qs3.s rfl) upd_same) (by simp only [List.length_map]; omega) (fun _ _ => rfl) (fun p H9 e9 hp => ?_) fun p H9 e9 hp hf => ?_
    · obtain ⟨e, he, rfl⟩ := List.mem_map.mp hp
      obtain ⟨n, hn', rfl⟩ := List.mem_map.mp he
      obtain ⟨r, h1, h2⟩ := pre e9 n hn'
      exact et_test (ev_neRat (ev_var (by rw [h1]; rfl)) (ev_var rfl) h2 (orat e9))
    · obtain ⟨e, he, rfl⟩ := List.mem_map.mp hp
      obtain ⟨n, hn', rfl⟩ := List.mem_map.mp he
      obtain ⟨r, h1, h2⟩ := pre e9 n hn'
      have hnl := hnlen n hn'
      obtain ⟨k1, k2⟩ := hsz n
      have hrl := ratText_len k1 k2
      have l4 : ("size" : Str).length = 4 := rfl
      have l1 : (" " : Str).length = 1 := rfl
      refine ev_is (ev_joined (.cons (ev_fmtS ev_c (by rw [l4]; omega)) ?_ (.cons ev_c ?_ (.cons (ev_fmtS (a := n) (ev_var rfl) (by omega)) ?_ (.cons ev_c ?_ (.cons (ev_fmtRat (ev_var (by rw [h1]; rfl)) h2 k1 k2) ?_ .nil)))))) ?_
      · simp only [empty_app, l4]; omega
      · simp only [empty_app, len_app, l4, l1]; omega
      · simp only [empty_app, len_app, l4, l1]; omega
      · simp only [empty_app, len_app, l4, l1]; omega
      · simp only [empty_app, len_app, l4, l1]; omega
      · show V.str _ = V.str (sizeText n (sizeOf' sz n))
        rw [sizeText_eq]
        rfl) (by
      have := List.length_filter_le (fun n => !decide (sizeOf' sz n = (1, 1))) (namesOf' tb)
      simp only [List.length_map]
      omega) fun H9 e9 => ?_
  have B6ln : B6 ln = none := fresh_back b7 hlnG
  have bN : Ex B6 (upd H9 ln (.lst (((namesOf' tb).map fun n => tableText n (colOf tb n)).map V.str ++ (((namesOf' tb).filter fun n => !decide (sizeOf' sz n = (1, 1))).map fun n => sizeText n (sizeOf' sz n)).map V.str))) := (bM.trans e9).mut B6ln
  have sN := slt_upd (u := .lst (((namesOf' tb).map fun n => tableText n (colOf tb n)).map V.str ++ (((namesOf' tb).filter fun n => !decide (sizeOf' sz n = (1, 1))).map fun n => sizeText n (sizeOf' sz n)).map V.str)) (slt_ex e9 sM) lnx lnd
  have lN : upd H9 ln (.lst (((namesOf' tb).map fun n => tableText n (colOf tb n)).map V.str ++ (((namesOf' tb).filter fun n => !decide (sizeOf' sz n = (1, 1))).map fun n => sizeText n (sizeOf' sz n)).map V.str)) ln = some (.lst (((namesOf' tb).map fun n => tableText n (colOf tb n)).map V.str ++ (((namesOf' tb).filter fun n => !decide (sizeOf' sz n = (1, 1))).map fun n => sizeText n (sizeOf' sz n)).map V.str)) := upd_same
  have hcnt : (((namesOf' tb).map fun n => tableText n (colOf tb n)).map V.str ++ (((namesOf' tb).filter fun n => !decide (sizeOf' sz n = (1, 1))).map fun n => sizeText n (sizeOf' sz n)).map V.str).length ≤ 12 := by
    have := List.length_filter_le (fun n => !decide (sizeOf' sz n = (1, 1))) (namesOf' tb)
    simp only [List.length_map, List.length_append]
    omega
  rw [← List.map_append] at *
  generalize hLS : ((namesOf' tb).map fun n => tableText n (colOf tb n)) ++ (((namesOf' tb).filter fun n => !decide (sizeOf' sz n = (1, 1))).map fun n => sizeText n (sizeOf' sz n)) = LS at *
  generalize upd H9 ln (.lst (LS.map V.str)) = N at *
  have hgN := bN _ _ (e0B6 _ _ hg)
  refine s_slotU (xs := (linesOf tb gr sz).map V.str) (eu_if (b := !decide (gr = [])) (et_test (ev_neTup (m := []) (ev_var rfl) (SqT.of hgN) (eu_tup ea_nil (by decide)) (fun z hz => (hw.2 z hz).2) (fun z hz => nomatch hz))) (fun hb3 => ?_) (fun hb3 => ?_)) (ev_var rfl) sN T.Question.sc T.qs2.s fun tp H10 htp e10 htp2 => ?_
  · have hgr : gr ≠ [] := by simpa using hb3
    have hL : (linesOf tb gr sz).map V.str = LS.map V.str ++ [V.str (groupText gr)] := by
      unfold linesOf
      rw [hLS, if_neg hgr, List.map_append]
      rfl
    rw [hL]
    have hG' := hG
    unfold areNames at hG'
    rw [Bool.and_eq_true] at hG'
    have hgl := hw.1
    refine eu_tup (ea_starL (ev_var rfl) (SqL.of lN) (ea_cons (ev_joinN (l := "group" :: gr) ev_c ?_ ?_) ea_nil)) (by simp only [List.length_append, List.length_cons, List.length_nil]; omega)
    · have := el_lst (ea_cons (ev_c (v := V.str "group")) (ea_starT (K := K) (te := tVar 2) (σ := ((((start ["self", "tables", "groups", "sizes", "told", "one", "name", "lines", "columns", "size"] [.ref x, .ref td, .ref g, .ref sd]).set 4 (some (.ref sd))).set 5 (some (.ref o))).set 7 (some (.ref ln)))) (H := N) (ev_var rfl) (SqT.of hgN) ea_nil)) (by simp only [List.length_cons, List.length_append, List.length_map, List.length_nil]; omega)
      rw [List.append_nil] at this
      exact this
    · have hsum : (gr.map (·.length)).sum ≤ gr.length * 8 := by
        have : ∀ m : List Str, (∀ z ∈ m, z.length ≤ 8) → (m.map (·.length)).sum ≤ m.length * 8 := by
          intro m
          induction m with
          | nil => intro _; simp
          | cons y r ih =>
            intro hm
            have a1 := hm y List.mem_cons_self
            have a2 := ih fun z hz => hm z (List.mem_cons_of_mem _ hz)
            simp only [List.map_cons, List.sum_cons, List.length_cons]
            omega
        exact this _ fun z hz => isName_len (List.all_eq_true.mp hG'.1 z hz)
      have h5 : ("group" : Str).length = 5 := rfl
      have h1s : (" " : Str).length = 1 := rfl
      simp only [List.map_cons, List.sum_cons, List.length_cons, h5, h1s]
      omega
  · have hgr : gr = [] := by simpa using hb3
    have hL : (linesOf tb gr sz).map V.str = LS.map V.str := by
      unfold linesOf
      rw [hLS, if_pos hgr, List.append_nil]
    rw [hL]
    exact eu_tupN' (ev_var rfl) (SqL.of lN)
  · have Nx : ∃ o, N x = some o := by rcases sN with ⟨h, _⟩ | ⟨h, _⟩ <;> exact ⟨_, h⟩
    have Nd : ∃ o, N dx = some o := by
      rcases sN with ⟨_, h⟩ | ⟨_, h⟩
      · cases h
      · exact ⟨_, h⟩
    have tpx : tp ≠ x := fun z => by subst z; rw [Nx.choose_spec] at htp; cases htp
    have tpd : tp ≠ dx := fun z => by subst z; rw [Nd.choose_spec] at htp; cases htp
    exact kq hP _ (slH_ex ((e0B6.trans bN).trans e10) x0 d0) ⟨dx, tp, _, SlX.slH_slt hne, SlX.putS_get _ _ _, by rw [SlX.slH_ne tpx tpd]; exact htp2⟩
theorem sc_Question_init : FnScope ["self", "tables", "groups", "sizes", "told", "one", "name", "lines", "columns", "size"] ["self", "tables", "groups", "sizes"] (defScope s_Question_init) := ⟨rfl, rfl, rfl, by decide +kernel, rfl, by decide +kernel, by decide +kernel⟩
theorem d_Question_init {P : Program} {w : World} {K : PySem.W.Frag} {mg : Str → Option Value} {base : Heap} (T : Txt K mg) {f : Addr} {cdv : Value} {A : Around} {outer : List Env} {s : Shared} {H : Hp} {E : XK} (hr : Room 5 (A.deeper (envOfC "Question.__init__" (defScope s_Question_init) s.heap.objs.size f cdv))) :
    PSs (cxOf (L2.CX P w) P w K mg base ["self", "tables", "groups", "sizes", "told", "one", "name", "lines", "columns", "size"] "Question.__init__" (defScope s_Question_init) f cdv A outer s H E) (defBody s_Question_init) (t_Question_init K T E) := by
  have hu := hu_of hr
  obtain ⟨ds, hds, hbs⟩ := b_Ratio_init T
  exact (pss_cons (ps_asg (pe_ifExp (pt_cmpR op_isN (pv 3) pe_non (nomark _)) pe_dnewK (pv 3)) (pg_name (i := 4) sc_Question_init.nd rfl (Or.inr rfl)))
      (pss_cons (ps_if (pt_not (pt_val (pe_cl (cl_are_parts T) hr (pa_cons (pv 1) (pa_cons (pv 2) (pa_cons (pv 4) pa_nil)))))) (pss_one (ps_raiseOwn T.InvalidQuestion.ex T.InvalidQuestion.g T.InvalidQuestion.kc T.InvalidQuestion.sb T.InvalidQuestion.ty (takes_of rfl rfl rfl rfl))) pss_nil)
      (pss_cons (ps_asg (pe_make ⟨T.Ratio.mks, T.Ratio_init.m.at_, T.Ratio_init.m.fn, T.Ratio.kc⟩ (ok_Ratio_init T) (hr.mono (by decide)) (by rfl) T.Ratio.g hbs hds pass0 (pa_cons pe_int (pa_cons pe_int pa_nil))) (pg_name (i := 5) sc_Question_init.nd rfl (Or.inr rfl)))
      (pss_cons (SlX.ps_sl (pv 0) (pe_dc (own := [("name", 6)]) rfl sc_Question_init.nd (pi_list (pe_callB (call_sortedD rfl) (by rfl) T.b_sorted (by decide +kernel) (pa_cons (pv 1) pa_nil))) (blkOk_by (own := [("name", 6)]) (N := ["self", "tables", "groups", "sizes", "told", "one", "name", "lines", "columns", "size"]) (sc := defScope s_Question_init) (by decide +kernel)) (fun _ _ _ _ _ => (pg_name (i := 6) sc_Question_init.nd rfl (Or.inl rfl))) (fun _ _ _ _ _ => pts_nil) (fun _ _ _ _ _ => (pv 6)) (fun _ _ _ _ _ => (pe_dget hu (pv 1) (pv 6) (fun _ _ => rfl)))))
      (pss_cons (SlX.ps_sl (pv 0) (pv 2))
      (pss_cons (SlX.ps_sl (pv 0) (pe_lock (pe_dc (own := [("name", 6)]) rfl sc_Question_init.nd (pi_keys (SlX.pe_sl (pv 0))) (blkOk_by (own := [("name", 6)]) (N := ["self", "tables", "groups", "sizes", "told", "one", "name", "lines", "columns", "size"]) (sc := defScope s_Question_init) (by decide +kernel)) (fun _ _ _ _ _ => (pg_name (i := 6) sc_Question_init.nd rfl (Or.inl rfl))) (fun _ _ _ _ _ => pts_nil) (fun _ _ _ _ _ => (pv 6)) (fun _ _ _ _ _ => (pe_dget2 hu (pv 4) (pv 6) (pv 5) ⟨rfl, rfl, rfl, rfl⟩)))))
      (pss_cons (SlX.ps_sl (pv 0) (pe_cl (cl_columns_of T) hr (pa_cons (pv 1) pa_nil)))
      (pss_cons (ps_lock (ps_setLc (i := 7) (own := [("name", 6), ("columns", 8)]) rfl sc_Question_init.nd rfl rfl (sw_true rfl rfl rfl (by decide +kernel)) (pi_items (SlX.pe_sl (pv 0))) (blkOk_by (own := [("name", 6), ("columns", 8)]) (N := ["self", "tables", "groups", "sizes", "told", "one", "name", "lines", "columns", "size"]) (sc := defScope s_Question_init) (by decide +kernel)) (fun _ _ _ _ _ => (pg_tup rfl (pgs_cons (pg_name (i := 6) sc_Question_init.nd rfl (Or.inl rfl)) (pgs_cons (pg_name (i := 8) sc_Question_init.nd rfl (Or.inl rfl)) pgs_nil)))) (fun _ _ _ _ _ => pts_nil) (fun _ _ _ _ _ => (pe_join pe_str (pe_lst (pa_cons (pe_k T.k_TABLE) (pa_cons (pv 6) (StX.pa_star (pv 8) pa_nil))))))))
      (pss_cons (ps_expr (pe_bm PySem.F.plainAttrs_list PySem.F.slot_list_extend PySem.F.type_list_extend mt_extend (pv 7) (pa_cons (pe_lock (pe_lc (own := [("name", 6), ("size", 9)]) rfl sc_Question_init.nd (pi_items (SlX.pe_sl (pv 0))) (blkOk_by (own := [("name", 6), ("size", 9)]) (N := ["self", "tables", "groups", "sizes", "told", "one", "name", "lines", "columns", "size"]) (sc := defScope s_Question_init) (by decide +kernel)) (fun _ _ _ _ _ => (pg_tup rfl (pgs_cons (pg_name (i := 6) sc_Question_init.nd rfl (Or.inl rfl)) (pgs_cons (pg_name (i := 9) sc_Question_init.nd rfl (Or.inl rfl)) pgs_nil)))) (fun _ _ _ _ _ => (pts_one (pt_cmpR (op_neOwn T.ratNe T.Ratio.si.cm T.Ratio_eq.m (r_Ratio_eq T) (hr.mono (by decide)) pass0) (pv 9) (pv 5) (nomark _)))) (fun _ _ _ _ _ => (pe_joined (.cons (pe_fmt (pe_k T.k_SIZE)) (.cons pe_str (.cons (pe_fmt (pv 6)) (.cons pe_str (.cons (pe_fmtO T.ratFmt T.Ratio.si.cm T.Ratio_str.m (r_Ratio_str T) (hr.mono (by decide)) pass0 (pv 9)) .nil))))))))) pa_nil)))
      (pss_one (SlX.ps_sl (pv 0) (pe_ifExp (pt_cmpR (op_neD hr.units) (pv 2) (pe_tup pa_nil) (nomark _)) (pe_tup (StX.pa_star (pv 7) (pa_cons (pe_join pe_str (pe_lst (pa_cons (pe_k T.k_GROUP) (StX.pa_star (pv 2) pa_nil)))) pa_nil))) (pe_callTy call_tuple_of (by rfl) T.b_tuple (by decide +kernel) (pa_cons (pv 7) pa_nil))))))))))))))
theorem ok_Question_init {P : Program} {w : World} {K : PySem.W.Frag} {mg : Str → Option Value} {base : Heap} (T : Txt K mg) : FnOk P w K mg base (L2.CX P w) 6 T.Question_init.f T.Question_init.fd ["self", "tables", "groups", "sizes"] (sp_Question_init T) :=
  T.Question_init.F.ok sc_Question_init len_Question_init fun cdv A outer s H vs Q E hr h => ⟨t_Question_init K T E, d_Question_init T hr, pure_Question_init T h⟩

end K08

namespace K08
open PySem PySem.Spec PyProof.Rows L2 Evl
/-! ### Question.lines -/
def t_Question_lines (K : PySem.W.Frag) : TS :=
  (tRet (SlX.tSl K (tVar 0) "own_lines"))
def sp_Question_lines {K : PySem.W.Frag} {mg : Str → Option Value} (T : Txt K mg) : Sp := fun vs H Q _ => ∃ (a : Addr) (ls : List Str), vs = [.ref a] ∧ QuA T H a ls ∧ ∀ t H', Ex H H' → H' t = some (.tup (ls.map V.str)) → Q (.ref t) H'
theorem len_Question_lines {K : PySem.W.Frag} {mg : Str → Option Value} {T : Txt K mg} : ∀ vs H Q E, sp_Question_lines T vs H Q E → vs.length = 1 := fun vs H Q E ⟨_, _, e, _⟩ => by rw [e]; rfl
theorem pure_Question_lines {K : PySem.W.Frag} {mg : Str → Option Value} (T : Txt K mg) {vs : List V} {H : Hp} {Q : VK} {E : XK} (h : sp_Question_lines T vs H Q E) : t_Question_lines K { nx := fun _ H' => Q .non H', rt := Q } (start ["self"] vs) H := by
  obtain ⟨a, ls, rfl, ⟨dx, t, vs, hs, h2, ht⟩, k⟩ := h
  exact s_ret (ev_slot (ev_var rfl) hs T.Question.sc T.qs2.s h2) fun H1 e1 => k t H1 e1 (e1 _ _ ht)
theorem sc_Question_lines : FnScope ["self"] ["self"] (defScope s_Question_lines) := ⟨rfl, rfl, rfl, by decide +kernel, rfl, by decide +kernel, by decide +kernel⟩
theorem d_Question_lines {P : Program} {w : World} {K : PySem.W.Frag} {mg : Str → Option Value} {base : Heap} (T : Txt K mg) {f : Addr} {cdv : Value} {A : Around} {outer : List Env} {s : Shared} {H : Hp} {E : XK} (hr : Room 0 (A.deeper (envOfC "Question.lines" (defScope s_Question_lines) s.heap.objs.size f cdv))) :
    PSs (cxOf CX0 P w K mg base ["self"] "Question.lines" (defScope s_Question_lines) f cdv A outer s H E).nox (defBody s_Question_lines) (t_Question_lines K) := by
  have hu := hu_of hr
  exact (pss_one (ps_ret (SlX.pe_sl (pv 0))))
theorem ok_Question_lines {P : Program} {w : World} {K : PySem.W.Frag} {mg : Str → Option Value} {base : Heap} (T : Txt K mg) : FnOk P w K mg base CX0 1 T.Question_lines.f T.Question_lines.fd ["self"] (sp_Question_lines T) :=
  ok0 T.Question_lines.F sc_Question_lines len_Question_lines fun cdv A outer s H vs Q E hr h => ⟨t_Question_lines K, d_Question_lines T hr, pure_Question_lines T h⟩
theorem b_Question_lines {K : PySem.W.Frag} {mg : Str → Option Value} (T : Txt K mg) : Binds K T.Question_lines.fd ["self"] [] := T.Question_lines.F.bindsN fun _ _ _ _ _ _ us hl => match us, hl with | [_], _ => rfl
theorem r_Question_lines {P : Program} {w : World} {K : PySem.W.Frag} {mg : Str → Option Value} {base : Heap} (T : Txt K mg) : FnR P w K mg base CX0 1 T.Question_lines.f (sp_Question_lines T) := fnr_of (ok_Question_lines T) (T.Question_lines.F.bindsN fun _ _ _ _ _ _ us hl => match us, hl with | [_], _ => rfl)

/-! ### QuestionLines.whole -/
theorem kb_Question_init {K : PySem.W.Frag} {mg : Str → Option Value} (T : Txt K mg) : ∃ mv : List Value, KBn K T.Question_init.fd ["self", "tables", "groups", "sizes"] 3 ["sizes"] (fun us ws => us ++ ws) (fun vs zs => vs ++ zs) := by
  obtain ⟨mv, h⟩ := T.Question_init.F.kbinds0 (ps := ["self", "tables", "groups", "sizes"]) 3 ["sizes"] [] (fun us _ ws => us ++ ws) (by decide) (fun q hq => nomatch hq) (fun r1 _ r3 => r1.append r3) fun D doc pm an cdv ct us mv ws h1 h2 h3 => match us, h1, mv, h2, ws, h3 with
    | [_, _, _], _, [], _, [_], _ => rfl
  exact ⟨mv, h⟩
theorem s_retMakeK {C : Addr} {n m : Nat} {sp : Sp} {gV : List V → List V → List V} {E : XK} {ta tk : TA} {σ : L2.St} {H : Hp} {vs zs : List V} {D : Ends} (ha : EvA ta σ H vs) (hk : EvA tk σ H zs) (h1 : vs.length = n) (h2 : zs.length = m)
    (k : ∀ H1, Ex H H1 → ∀ x dx, H1 x = none → H1 dx = none → dx ≠ x → sp (gV (.ref x :: vs) zs) (upd (upd H1 dx (.own x)) x (.ins C dx [])) (fun v H3 => v = .non ∧ D.rt (.ref x) H3) E) : tRet (tMakeK C n m sp gV E ta tk) D σ H :=
  ha H (Ex.refl H) _ fun H1 e1 => hk H1 e1 _ fun H2 e2 => ⟨h1, h2, k H2 (e1.trans e2)⟩
def t_QuestionLines_whole (K : PySem.W.Frag) {mg : Str → Option Value} (T : Txt K mg) (E : XK) : TS :=
  (tSeq (tAsg (tIf (tTest (tOp rNotNn (tFld K (tVar 0) "own_groups") (tC .non))) (tFld K (tVar 0) "own_groups") (tTup tNil)) (gName 1))
    (tRet (tMakeK T.Question.C 2 (List.length [("sizes" : Str)]) (sp_Question_init T) (fun vs zs => vs ++ zs) E (tCons (tFld K (tVar 0) "own_tables") (tCons (tVar 1) tNil)) (tCons (tFld K (tVar 0) "own_sizes") tNil))))
/-- what a state of lines taken keeps -/
structure QsOk (s : QS) (n : Nat) : Prop where
  t : s.tb.length ≤ n
  z : s.sz.length ≤ n
  tn : (s.tb.map (·.1)).Nodup
  zn : (s.sz.map (·.1)).Nodup
  ts : ∀ e ∈ s.tb, e.1.length ≤ 1000 ∧ e.2.length ≤ 1000 ∧ ∀ z ∈ e.2, z.length ≤ 1000
  gs : SmallW (s.gr.getD [])
  zs : ∀ e ∈ s.sz, 1 ≤ e.2.2
def sp_QuestionLines_whole {K : PySem.W.Frag} {mg : Str → Option Value} (T : Txt K mg) : Sp := fun vs H Q E => ∃ (a td sd : Addr) (s : QS), vs = [.ref a] ∧ QlA T H a td sd s ∧ QsOk s 1000 ∧
  (isParts s.tb (s.gr.getD []) s.sz = true → ∀ b H', Ex H H' → QuA T H' b (linesOf s.tb (s.gr.getD []) s.sz) → Q (.ref b) H') ∧ (isParts s.tb (s.gr.getD []) s.sz = false → ∀ H', Ex H H' → E (.ref T.InvalidQuestion.C) none H')
theorem len_QuestionLines_whole {K : PySem.W.Frag} {mg : Str → Option Value} {T : Txt K mg} : ∀ vs H Q E, sp_QuestionLines_whole T vs H Q E → vs.length = 1 := fun vs H Q E ⟨_, _, _, _, e, _⟩ => by rw [e]; rfl
theorem pure_QuestionLines_whole {K : PySem.W.Frag} {mg : Str → Option Value} (T : Txt K mg) {vs : List V} {H : Hp} {Q : VK} {E : XK} (h : sp_QuestionLines_whole T vs H Q E) : t_QuestionLines_whole K T E { nx := fun _ H' => Q .non H', rt := Q } (start ["self", "groups"] vs) H := by
  obtain ⟨a, td, sd, s, rfl, ⟨dx, gv, l, l2, h1, h2, h3, h4, h5, h6, h7⟩, ok, kq, kE⟩ := h
  refine q_asgQ (P := fun v H' => ∃ g, v = .ref g ∧ H' g = some (.tup ((s.gr.getD []).map V.str))) (fun H1 e1 Q' q' => et_is (et_test (ev_op (ev_fld (ev_var rfl) h1 T.qlCls T.qlP rfl) ev_c rv_notNn)) (congrArg (!·) (grR_non h7)) H1 e1 _ fun H2 e2 => ?_) fun v H1 e1 hv => ?_
  · cases hg : s.gr with
    | none =>
      rw [hg] at q'
      exact (eu_tup ea_nil (by decide)) H2 (Ex.refl H2) Q' fun p H3 hp e3 hx => q' _ _ (e2.trans e3) ⟨p, rfl, hx⟩
    | some g =>
      rw [hg] at h7 q'
      obtain ⟨t, rfl, ht⟩ := h7
      exact ev_fld (ev_var rfl) h1 T.qlCls T.qlP rfl H2 (e1.trans e2) Q' fun H3 e3 => q' _ _ (e2.trans e3) ⟨t, rfl, e3 _ _ (e2 _ _ (e1 _ _ ht))⟩
  · obtain ⟨g, rfl, hg⟩ := hv
    refine s_retMakeK (ea_cons (ev_fld (ev_var rfl) (e1 _ _ h1) T.qlCls T.qlT rfl) (ea_cons (ev_var rfl) ea_nil)) (ea_cons (ev_fld (ev_var rfl) (e1 _ _ h1) T.qlCls T.qlS rfl) ea_nil) rfl rfl fun H4 e14 x dx' nx nd hne => ?_
    have e04 := e1.trans e14
    exact ⟨x, dx', td, g, sd, H4, l, l2, s.tb, s.gr.getD [], s.sz, rfl, upd_same, by rw [upd_ne hne]; exact upd_same, hne, ((Ex.refl H4).mut nd).mut nx, nx, nd, e04 _ _ h2, h3.mono (tupR_ex e04), ok.tn, ⟨ok.t, ok.ts⟩, e14 _ _ hg, ok.gs, e04 _ _ h4, h5.mono (ratR_ex e04), ok.zn, ok.z, ok.zs,
      fun hp H' e' hq => ⟨rfl, kq hp x H' (e04.trans e') hq⟩, fun hp H' e' => kE hp H' (e04.trans e')⟩
theorem sc_QuestionLines_whole : FnScope ["self", "groups"] ["self"] (defScope s_QuestionLines_whole) := ⟨rfl, rfl, rfl, by decide +kernel, rfl, by decide +kernel, by decide +kernel⟩
theorem d_QuestionLines_whole {P : Program} {w : World} {K : PySem.W.Frag} {mg : Str → Option Value} {base : Heap} (T : Txt K mg) {f : Addr} {cdv : Value} {A : Around} {outer : List Env} {s : Shared} {H : Hp} {E : XK} (hr : Room 7 (A.deeper (envOfC "QuestionLines.whole" (defScope s_QuestionLines_whole) s.heap.objs.size f cdv))) :
    PSs (cxOf (L2.CX P w) P w K mg base ["self", "groups"] "QuestionLines.whole" (defScope s_QuestionLines_whole) f cdv A outer s H E) (defBody s_QuestionLines_whole) (t_QuestionLines_whole K T E) := by
  have hu := hu_of hr
  obtain ⟨mv, hkb⟩ := kb_Question_init T
  exact (pss_cons (ps_asg (pe_ifExp (pt_cmpR op_notN (pe_fld (pv 0) rfl) pe_non (nomark _)) (pe_fld (pv 0) rfl) (pe_tup pa_nil)) (pg_name (i := 1) sc_QuestionLines_whole.nd rfl (Or.inl rfl)))
      (pss_one (ps_ret (pe_makeK (n := 2) (ks := ["sizes"]) ⟨T.Question.mks, T.Question_init.m.at_, T.Question_init.m.fn, T.Question.kc⟩ (ok_Question_init T) (hr.mono (by decide)) (by rfl) T.Question.g hkb (passes_call (takes_of rfl rfl rfl rfl) fun _ _ _ _ h => h) (pa_cons (pe_fld (pv 0) rfl) (pa_cons (pv 1) pa_nil)) (pk_cons (pe_fld (pv 0) rfl) pk_nil)))))
theorem ok_QuestionLines_whole {P : Program} {w : World} {K : PySem.W.Frag} {mg : Str → Option Value} {base : Heap} (T : Txt K mg) : FnOk P w K mg base (L2.CX P w) 8 T.QuestionLines_whole.f T.QuestionLines_whole.fd ["self"] (sp_QuestionLines_whole T) :=
  T.QuestionLines_whole.F.ok sc_QuestionLines_whole len_QuestionLines_whole fun cdv A outer s H vs Q E hr h => ⟨t_QuestionLines_whole K T E, d_QuestionLines_whole T hr, pure_QuestionLines_whole T h⟩
theorem b_QuestionLines_whole {K : PySem.W.Frag} {mg : Str → Option Value} (T : Txt K mg) : Binds K T.QuestionLines_whole.fd ["self"] [] := T.QuestionLines_whole.F.bindsN fun _ _ _ _ _ _ us hl => match us, hl with | [_], _ => rfl
theorem r_QuestionLines_whole {P : Program} {w : World} {K : PySem.W.Frag} {mg : Str → Option Value} {base : Heap} (T : Txt K mg) : FnR P w K mg base (L2.CX P w) 8 T.QuestionLines_whole.f (sp_QuestionLines_whole T) := fnr_of (ok_QuestionLines_whole T) (T.QuestionLines_whole.F.bindsN fun _ _ _ _ _ _ us hl => match us, hl with | [_], _ => rfl)

end K08

namespace K08
open PySem PySem.Spec PyProof.Rows L2 Evl
/-! ### enumerate(a tuple) -/
section
open PySem Builtin
theorem meets_enum1 {v : Value} {o : Obj} {S : Heap → Prop} (B : Begins v o S) :
    Meets (Builtin.«enumerate.__new__» ⟨[.type "enumerate", v], []⟩) (fun _ R s => S s.heap ∧
      R (.ok (.ret (.ref (s.heap.push o).objs.size))) { s with heap := (s.heap.push o).push { cls := .type "enumerate", data := .fields #[.none, .bool false, .ref s.heap.objs.size, rawInt 0, .none, .none] } }) :=
  .of_wp fun prog w A R s h => by
    obtain ⟨hp, g, d, tk, os⟩ := s; obtain ⟨h1, h⟩ := h
    have hsub := sub_enumerate
    have q1 : ∀ {A' : Around} {E : Value → Shared → Prop} {Q : Value → Shared → Prop}, Q (.ref hp.objs.size) ⟨hp.push o, g, d, tk, os⟩ → wpAny (model prog w) A' (pyIter v) Q E ⟨hp, g, d, tk, os⟩ :=
      fun q => B.iter prog w _ _ ⟨hp, g, d, tk, os⟩ _ h1 q
    wp_walk using q1
    refine wpAny_stack_any fun st => wpAny_pure ?_
    split
    · rename_i c _ _ _ _ _
      cases (c == Value.type "enumerate")
      · wp_walk using q1
        exact ⟨_, rfl, h⟩
      · wp_walk using q1
        exact ⟨_, rfl, h⟩
    · wp_walk using q1
      exact ⟨_, rfl, h⟩
theorem enum_begins1 {prog : Program} {w : World} {A : Around} {E : Value → Shared → Prop} {s : Shared} {v : Value} {o : Obj} {S : Heap → Prop} {Q : Value → Shared → Prop} (B : Begins v o S) (h1 : S s.heap)
    (h : ∀ h', IsEnum h' (s.heap.objs.size + 1) s.heap.objs.size 0 .none → h'.get? s.heap.objs.size = some o → h'.objs.size = s.heap.objs.size + 2 →
      (∀ b o, s.heap.get? b = some o → h'.get? b = some o) → Q (.ref (s.heap.objs.size + 1)) { s with heap := h' }) :
    wpAny (model prog w) A (call (.type "enumerate") [v]) Q E s := by
  refine callType_new PySem.F.called_enumerate (by decide) (PySem.F.typeCall_enumerate_1 _) (PySem.F.newCall_enumerate_1 _) (fun obj => PySem.F.args_object_init_2 obj _) PySem.F.entry_enumerate_new
    (meets_enum1 B) ⟨h1, ?_⟩
  have hz : (s.heap.push o).objs.size = s.heap.objs.size + 1 := Heap.size_push ..
  show _ ∧ _
  rw [hz]
  have he : IsEnum ((s.heap.push o).push { cls := .type "enumerate", data := .fields #[.none, .bool false, .ref s.heap.objs.size, rawInt 0, .none, .none] }) (s.heap.objs.size + 1) s.heap.objs.size 0 .none := by
    have := Heap.get?_push_size (s.heap.push o) (o := { cls := .type "enumerate", data := .fields #[.none, .bool false, .ref s.heap.objs.size, rawInt 0, .none, .none] }) rfl
    rw [hz] at this; exact this
  refine ⟨⟨_, he, rfl⟩, h _ he (Heap.get?_push_of_some _ (Heap.get?_push_size _ B.free)) (by rw [Heap.size_push, hz]) fun b o x => Heap.get?_push_of_some _ (Heap.get?_push_of_some _ x)⟩
end
theorem enumT_end {prog : Program} {w : World} {A : Around} {E : Value → Shared → Prop} {s : Shared} {e it l : Addr} {i : Nat} {items : Array Value} {old : Value} {Q : Option Value → Shared → Prop} (hh : A.handled = none)
    (he : IsEnum s.heap e it i old) (hit : s.heap.IsTupleIter it l i) (hl : s.heap.IsTuple l items) (hx : items[i]? = none)
    (hQ : ∀ h', Heap.ExtBut it s.heap h' → Q none { s with heap := h' }) : wpAny (model prog w) A (pyNext (.ref e)) Q E s := by
  have hT : s.TypeIs (.ref e) "enumerate" := ⟨_, he, rfl⟩
  unfold pyNext
  refine wpAny_bind (wpAny_attempt (wpAny_callSpecial?_slot (name := Str.ofString "__next__") hT PySem.F.slot_enumerate_next
    (wpAny_call_entry PySem.F.slot_enumerate_next hT PySem.F.entry_enumerate_next ?_ (PySem.F.args_enumerate_next_1 _))))
  show wpAny _ _ (field (.ref e) 2 >>= _) _ _ _
  refine wpAny_bind (wpAny_field he rfl (x := .ref it) rfl ?_)
  refine wpAny_bind (wpAny_nextOf_tuple_end hh hit hl hx fun h' x he' hx' => ?_)
  obtain ⟨o, ho, hc⟩ := hx'
  refine wpAny_bind (wpAny_isInstance (T := "StopIteration") (b := true) ⟨o, ho, hc⟩ isSubtype_stop ?_)
  exact wpAny_pure (hQ _ he')
/-- the tuple at a, each item in a new pair -/
def IteT (K : PySem.W.Frag) (a : Addr) : It :=
  ⟨fun i H => ∃ (xs : List V) (x : V), SqT K H a xs ∧ xs[i]? = some x, fun i H v H' => ∃ T x, v = .ref T ∧ H T = none ∧ H' = upd H T (.tup [.int (i : Nat), x]) ∧ ∀ xs, SqT K H a xs → xs[i]? = some x, fun i H => ∃ xs : List V, SqT K H a xs ∧ xs.length ≤ i⟩
theorem turn_enumT {P : Program} {w : World} {K : PySem.W.Frag} {elts : List Expr} {kk : Nat} {tpos : Pos} (a e it : Addr) :
    Turn P w K (.Tuple elts kk tpos) (IteT K a) [e, it] e (fun i h => (∃ old, IsEnum h e it ((i : Nat) : Int) old) ∧ h.IsTupleIter it a i ∧ e ≠ it ∧ a ≠ it ∧ a ≠ e) where
  mem := by simp
  obj := fun i h st b hb => by
    obtain ⟨⟨old, he⟩, ⟨o, ho, hc, hd⟩, _⟩ := st
    have e' : b = e ∨ b = it := by simpa using hb
    rcases e' with z | z
    · rw [z]; exact ⟨_, he, fun v q => nomatch q⟩
    · rw [z]; exact ⟨o, ho, fun v q => by rw [hd] at q; cases q⟩
  keep := fun i h h' st k => let ⟨⟨old, he⟩, hi, hne⟩ := st; ⟨⟨old, k e (by simp) _ he⟩, hi.at fun o q => k it (by simp) o q, hne⟩
  item := by
    intro X hP hw hK hc i pins s σ H E I hf st hg
    subst hP hw hK
    obtain ⟨⟨old, he⟩, hit, hne, hai, hae⟩ := st
    obtain ⟨xs, x, hq, hx⟩ := hg
    obtain ⟨its, rv, p, hz⟩ := I.tuple hq
    obtain ⟨u, hu, ru⟩ := rv.get hx
    have hel : e < s.heap.objs.size := Heap.lt_size he
    have hil : it < s.heap.objs.size := by obtain ⟨_, q, _⟩ := hit; exact Heap.lt_size q
    have pt : s.heap.IsTuple a its.toArray := p
    have hlt : i < its.toArray.size := by
      rw [List.size_toArray, ← rv.length]
      exact (List.getElem?_eq_some_iff.mp hx).1
    have D := Draws.tuple (prog := X.prog) (w := X.w) (A := X.A.in1) (I.ok.hd hc) it a hai its.toArray
    refine wpAny_pyNext_enum_itemD D he ⟨hit, pt⟩ hlt hne (fun z => by simp at z; rcases z with z | z; exact hne z; exact hae z.symm) fun y h' tk hP ho hst' hT hsz hk => ?_
    have hy : y = u := by
      have h1 : its.toArray[i]? = some u := by simpa using hu
      rw [h1] at hP
      exact (Option.some.inj hP).symm
    subst hy
    refine ⟨_, rfl, wpAny_letOwnedTupleGo_enum (s := { s with heap := h', toks := tk + 1 }) ho fun h'' he' sb => ?_⟩
    have hT2 : h''.get? s.heap.objs.size = some { cls := .type "tuple", data := .seq #[.int i tk, y] } := (sb.2 _ (Nat.ne_of_gt hel)).trans hT
    have new : ObjOk X.prog X.w (upd H s.heap.objs.size (.tup [.int (i : Nat), x])) h'' s.heap.objs.size (.tup [.int (i : Nat), x]) :=
      ⟨by show 2 ≤ sizeLine; decide, [.int i tk, y], .cons ⟨_, rfl⟩ (.cons ru .nil), ⟨_, hT2, rfl, _, rfl⟩⟩
    have I1 : Inv X pins σ (upd H s.heap.objs.size (.tup [.int (i : Nat), x])) { s with heap := h'', toks := tk + 1 } :=
      I.turnedNew (ch := [e, it]) (fun b ob hb q => (sb.2 b (fun z => hb (by simp [z]))).trans (hk b ob (fun z => hb (by simp [z])) (fun z => hb (by simp [z])) q)) hf (Nat.le_refl _) new
    refine ⟨.ref s.heap.objs.size, _, I1, rfl, ⟨_, x, rfl, I.hok.fresh (Nat.le_refl _), rfl, fun ys hy => by rw [I.tuple_inj hy hq]; exact hx⟩, ⟨⟨y, ?_⟩, hst'.1.at fun o q => (sb.2 it (Ne.symm hne)).trans q, hne, hai, hae⟩, fun b hb => ?_⟩
    · have e1 : ((i + 1 : Nat) : Int) = (i : Int) + 1 := by omega
      rw [e1]; exact he'
    · have hb' : b < s.heap.objs.size := by
        have e' : b = e ∨ b = it := by simpa using hb
        rcases e' with z | z
        · rw [z]; exact hel
        · rw [z]; exact hil
      rw [upd_ne (Nat.ne_of_lt hb')]
      exact (hf b hb).1
  done := by
    intro X hP hw hK hc i pins s σ H E I hf st hg
    subst hP hw hK
    obtain ⟨⟨old, he⟩, hit, hne, hai, hae⟩ := st
    obtain ⟨xs, hq, hx⟩ := hg
    obtain ⟨its, rv, p, hz⟩ := I.tuple hq
    obtain ⟨f0, f1, f2, f3, f4, f5⟩ := hf it (by simp)
    have pt : s.heap.IsTuple a its.toArray := p
    have hl := rv.length
    exact enumT_end (I.ok.hd hc) he hit pt (by simp; omega) fun h' eb => ⟨rfl, I.turned (t' := s.toks) (fun b o hb q => eb b o hb q) f0 f1 f3 f4 f5⟩
  self := fun A i s Q E st h => let ⟨⟨_, he⟩, _⟩ := st; wpAny_pyIter_enum he h
def iEnumT (K : PySem.W.Frag) (ta : TA) : TI := fun σ H R => ta σ H fun vs H1 => ∃ a xs, vs = [.ref a] ∧ SqT K H1 a xs ∧ R (IteT K a) H1
theorem pi_enumT {X : Cx} {e : Expr} {ta : TA} {p pos tpos : Pos} {elts : List Expr} {kk : Nat} (hg : Gl X "enumerate") (hm : X.mg "enumerate" = none) (ha : PA X [e] ta) (hs : starEach [e] X.env = [(false, eval e X.env)] := by rfl) :
    PI X (.Tuple elts kk tpos) (.Call (.Name "enumerate" p) [e] [] pos) (iEnumT X.K ta) := by
  refine ⟨fun pins s σ H R I h => ?_⟩
  refine Call_ (ld_blt I hg hm boot_enumerate (PyProof.Rows.callWith_type1 (thn (ha.run pos pins s σ H _ I h) fun us s1 ⟨vs, H1, I1, r1, q1⟩ => ?_) hs rfl))
  obtain ⟨a, xs, ex, hq, q⟩ := q1
  subst ex
  cases r1 with
  | cons r rr =>
    cases rr
    cases r
    obtain ⟨its, rv, p', hz⟩ := I1.tuple hq
    have pt : s1.heap.IsTuple a its.toArray := p'
    have hal : a < s1.heap.objs.size := by obtain ⟨o, ho, _⟩ := pt; exact Heap.lt_size ho
    refine enum_begins1 (begins_tuple a its.toArray) pt fun h' he hit hsz hk => wpAny_pyIter_enum he ?_
    have I2 : Inv X pins σ H1 { s1 with heap := h' } := I1.kept (t' := s1.toks) hk
    refine ⟨s1.heap.objs.size + 1, [s1.heap.objs.size + 1, s1.heap.objs.size], _, _, H1, rfl, I2, turn_enumT a (s1.heap.objs.size + 1) s1.heap.objs.size, ⟨⟨.none, he⟩, ⟨_, hit, rfl, rfl⟩, Nat.succ_ne_self _, Nat.ne_of_lt hal, Nat.ne_of_lt (Nat.lt_succ_of_lt hal)⟩, fun b hb => ?_, q⟩
    have e' : b = s1.heap.objs.size + 1 ∨ b = s1.heap.objs.size := by simpa using hb
    have hle : s1.heap.objs.size ≤ b := by
      rcases e' with z | z
      · rw [z]; exact Nat.le_add_right _ _
      · rw [z]; exact Nat.le_refl _
    exact I1.fpOk hle (I1.hok.fresh hle)
theorem walk_enumT {K : PySem.W.Frag} {a : Addr} {xs : List V} : Walk (IteT K a) xs.length (fun H => SqT K H a xs) (fun i H v H' => ∃ T x, v = .ref T ∧ H T = none ∧ H' = upd H T (.tup [.int (i : Nat), x]) ∧ xs[i]? = some x) := by
  refine ⟨fun i _ hi q => ⟨xs, xs[i], q, by simp [hi]⟩, fun _ q => ⟨xs, q, Nat.le_refl _⟩, fun i H v H' _ q y => ?_⟩
  obtain ⟨T, x, h1, h2, h3, h4⟩ := y
  exact ⟨T, x, h1, h2, h3, h4 xs q⟩

end K08

namespace K08
open PySem PySem.Spec PyProof.Rows L2 Evl
/-! ### ParseError.__init__ -/
def t_ParseError_init (K : PySem.W.Frag) : TS :=
  (tOst K "number" (tVar 0) (tVar 1))
def sp_ParseError_init {K : PySem.W.Frag} {mg : Str → Option Value} (T : Txt K mg) : Sp := fun vs H Q _ => ∃ (a : Addr) (v : V), vs = [.ref a, v] ∧ H a = some (exo a T.peC none) ∧ ∀ dx, H dx = none → dx ≠ a → Q .non (upd (upd H dx (exd dx [("number", v)])) a (exo a T.peC (some dx)))
theorem len_ParseError_init {K : PySem.W.Frag} {mg : Str → Option Value} {T : Txt K mg} : ∀ vs H Q E, sp_ParseError_init T vs H Q E → vs.length = 2 := fun vs H Q E ⟨_, _, e, _⟩ => by rw [e]; rfl
theorem pure_ParseError_init {K : PySem.W.Frag} {mg : Str → Option Value} (T : Txt K mg) {vs : List V} {H : Hp} {Q : VK} {E : XK} (h : sp_ParseError_init T vs H Q E) : t_ParseError_init K { nx := fun _ H' => Q .non H', rt := Q } (start ["self", "number"] vs) H := by
  obtain ⟨a, v, rfl, ha, k⟩ := h
  exact ⟨v, rfl, .ref a, rfl, a, T.peC, rfl, T.peO, T.peN, .inl ⟨ha, k⟩⟩
theorem sc_ParseError_init : FnScope ["self", "number"] ["self", "number"] (defScope s_ParseError_init) := ⟨rfl, rfl, rfl, by decide +kernel, rfl, by decide +kernel, by decide +kernel⟩
theorem d_ParseError_init {P : Program} {w : World} {K : PySem.W.Frag} {mg : Str → Option Value} {base : Heap} (T : Txt K mg) {f : Addr} {cdv : Value} {A : Around} {outer : List Env} {s : Shared} {H : Hp} {E : XK} (hr : Room 0 (A.deeper (envOfC "ParseError.__init__" (defScope s_ParseError_init) s.heap.objs.size f cdv))) :
    PSs (cxOf CX0 P w K mg base ["self", "number"] "ParseError.__init__" (defScope s_ParseError_init) f cdv A outer s H E).nox (defBody s_ParseError_init) (t_ParseError_init K) := by
  have hu := hu_of hr
  exact (pss_one (ps_ost (pv 0) (pv 1)))
theorem ok_ParseError_init {P : Program} {w : World} {K : PySem.W.Frag} {mg : Str → Option Value} {base : Heap} (T : Txt K mg) : FnOk P w K mg base CX0 1 T.peI.f T.peI.fd ["self", "number"] (sp_ParseError_init T) :=
  ok0 T.peI.F sc_ParseError_init len_ParseError_init fun cdv A outer s H vs Q E hr h => ⟨t_ParseError_init K, d_ParseError_init T hr, pure_ParseError_init T h⟩
theorem b_ParseError_init {K : PySem.W.Frag} {mg : Str → Option Value} (T : Txt K mg) : Binds K T.peI.fd ["self", "number"] [] := T.peI.F.bindsN fun _ _ _ _ _ _ us hl => match us, hl with | [_, _], _ => rfl
theorem r_ParseError_init {P : Program} {w : World} {K : PySem.W.Frag} {mg : Str → Option Value} {base : Heap} (T : Txt K mg) : FnR P w K mg base CX0 1 T.peI.f (sp_ParseError_init T) := fnr_of (ok_ParseError_init T) (T.peI.F.bindsN fun _ _ _ _ _ _ us hl => match us, hl with | [_, _], _ => rfl)

/-! ### what a row of lines tells (plain) -/
inductive Res where
  | parse (n : Nat)
  | question
  | lines (l : List Str)
noncomputable def takeAll : QS → Nat → List (Option Str) → Nat ⊕ QS
  | s, _, [] => .inr s
  | s, i, o :: r => match stepLine s o with
    | none => .inl i
    | some s' => takeAll s' (i + 1) r
def qs0 : QS := ⟨[], [], none⟩
def resOf : Nat ⊕ QS → Res
  | .inl i => .parse i
  | .inr s => if isParts s.tb (s.gr.getD []) s.sz = true then .lines (linesOf s.tb (s.gr.getD []) s.sz) else .question
noncomputable def toldOf (os : List (Option Str)) : Res := resOf (takeAll qs0 0 os)
/-- every line that is a text is not long -/
def LinesOk (os : List (Option Str)) : Prop := ∀ z, some z ∈ os → lnOk z
theorem qs0_ok : QsOk qs0 0 where
  t := Nat.le_refl _
  z := Nat.le_refl _
  tn := List.nodup_nil
  zn := List.nodup_nil
  ts := fun e he => absurd he List.not_mem_nil
  gs := ⟨Nat.zero_le _, fun z hz => absurd hz List.not_mem_nil⟩
  zs := fun e he => absurd he List.not_mem_nil
theorem putTable_ok {s s' : QS} {n : Nat} {name : Str} {c : List Str} (h : QsOk s n) (hn : name.length ≤ 1000) (hc : SmallW c) (e : putTable s name c = some s') : QsOk s' (n + 1) := by
  unfold putTable at e
  split at e
  · rename_i hb
    cases e
    have hlk : s.tb.lookup name = none := by
      simp only [Bool.and_eq_true, Bool.not_eq_true', Option.isSome_eq_false_iff, Option.isNone_iff_eq_none] at hb
      exact hb.2.2.2
    have hnot : name ∉ s.tb.map (·.1) := fun hm => by
      have := isSome_mem (z := name) (m := s.tb)
      rw [hlk, decide_eq_true hm] at this
      cases this
    refine ⟨?_, Nat.le_succ_of_le h.z, ?_, h.zn, ?_, h.gs, h.zs⟩
    · simp only [List.length_append, List.length_cons, List.length_nil]
      have := h.t
      omega
    · simp only [List.map_append, List.map_cons, List.map_nil]
      exact nd_snoc h.tn hnot
    · intro x hx
      rcases List.mem_append.mp hx with hx | hx
      · exact h.ts x hx
      · rw [List.mem_singleton.mp hx]
        exact ⟨hn, hc.1, fun z hz => (hc.2 z hz).1⟩
  · cases e
theorem putSize_ok {s s' : QS} {n : Nat} {name t : Str} (h : QsOk s n) (e : putSize s name (ratOf t) = some s') : QsOk s' (n + 1) := by
  unfold putSize at e
  cases hr : ratOf t with
  | none => rw [hr] at e; cases e
  | some z =>
    rw [hr] at e
    dsimp only at e
    split at e
    · rename_i hb
      cases e
      have hlk : s.sz.lookup name = none := by
        simp only [Bool.and_eq_true, Bool.not_eq_true', Option.isSome_eq_false_iff, Option.isNone_iff_eq_none] at hb
        exact hb.2
      have hnot : name ∉ s.sz.map (·.1) := fun hm => by
        have := isSome_mem (z := name) (m := s.sz)
        rw [hlk, decide_eq_true hm] at this
        cases this
      refine ⟨Nat.le_succ_of_le h.t, ?_, h.tn, ?_, h.ts, h.gs, ?_⟩
      · simp only [List.length_append, List.length_cons, List.length_nil]
        have := h.z
        omega
      · simp only [List.map_append, List.map_cons, List.map_nil]
        exact nd_snoc h.zn hnot
      · intro x hx
        rcases List.mem_append.mp hx with hx | hx
        · exact h.zs x hx
        · rw [List.mem_singleton.mp hx]
          exact (ratOf_is (p := z.1) (q := z.2) hr).1
    · cases e
theorem putGroups_ok {s s' : QS} {n : Nat} {c : List Str} (h : QsOk s n) (hc : SmallW c) (e : putGroups s c = some s') : QsOk s' (n + 1) := by
  unfold putGroups at e
  split at e
  · cases e
    exact ⟨Nat.le_succ_of_le h.t, Nat.le_succ_of_le h.z, h.tn, h.zn, h.ts, hc, h.zs⟩
  · cases e
theorem stepWords_ok {s s' : QS} {n : Nat} {ws : List Str} (h : QsOk s n) (hl : ws.length ≤ 61) (hw : ∀ w ∈ ws, w.length ≤ 60 ∧ PyData.strOk w = true) (e : stepWords s ws = some s') : QsOk s' (n + 1) := by
  match ws, hl, hw, e with
  | [], _, _, e => cases e
  | [w], hl, hw, e =>
    change (if w = "group" then putGroups s [] else none) = some s' at e
    split at e
    · exact putGroups_ok h ⟨Nat.zero_le _, fun z hz => absurd hz List.not_mem_nil⟩ e
    · cases e
  | w :: n' :: c, hl, hw, e =>
    have hs : SmallW (n' :: c) := smallW_of (by simp at hl ⊢; omega) fun z hz => hw z (List.mem_cons_of_mem _ hz)
    have hs2 : SmallW c := smallW_of (by simp at hl; omega) fun z hz => hw z (List.mem_cons_of_mem _ (List.mem_cons_of_mem _ hz))
    change (if w = "table" then putTable s n' c else _) = some s' at e
    split at e
    · exact putTable_ok h (by have := (hw n' (by simp)).1; omega) hs2 e
    · match c, hs, e with
      | [], hs, e =>
        change (if w = "group" then putGroups s [n'] else none) = some s' at e
        split at e
        · exact putGroups_ok h hs e
        · cases e
      | [t], hs, e =>
        change (if w = "size" then putSize s n' (ratOf t) else if w = "group" then putGroups s [n', t] else none) = some s' at e
        split at e
        · exact putSize_ok h e
        · split at e
          · exact putGroups_ok h hs e
          · cases e
      | t :: t2 :: r, hs, e =>
        change (if w = "group" then putGroups s (n' :: t :: t2 :: r) else none) = some s' at e
        split at e
        · exact putGroups_ok h hs e
        · cases e
theorem stepLine_ok {s s' : QS} {n : Nat} {o : Option Str} (h : QsOk s n) (ho : ∀ z, o = some z → lnOk z) (e : stepLine s o = some s') : QsOk s' (n + 1) := by
  cases o with
  | none => cases e
  | some z => exact stepWords_ok h (words_ok (ho z rfl)).1 (words_ok (ho z rfl)).2 e
theorem QsOk.mono {s : QS} {n m : Nat} (h : QsOk s n) (hm : n ≤ m) : QsOk s m := ⟨Nat.le_trans h.t hm, Nat.le_trans h.z hm, h.tn, h.zn, h.ts, h.gs, h.zs⟩

end K08

namespace K08
open PySem PySem.Spec PyProof.Rows L2 Evl
/-! ### Question.from_lines -/
/-- rows of lines -/
def LnsR (K : PySem.W.Frag) (H : Hp) : List V → List (Option Str) → Prop := Paired (LnR K H)
theorem LnsR.ex {K : PySem.W.Frag} {H H' : Hp} (e : Ex H H') {vs : List V} {os : List (Option Str)} (h : LnsR K H vs os) : LnsR K H' vs os := L2.Paired.mapP h fun _ _ x => x.ex e
def sp_Question_from_lines {K : PySem.W.Frag} {mg : Str → Option Value} (T : Txt K mg) : Sp := fun vs H Q E => ∃ (p : Addr) (xs : List V) (os : List (Option Str)), vs = [.ref T.Question.C, .ref p] ∧ H p = some (.tup xs) ∧ LnsR K H xs os ∧ xs.length ≤ 900 ∧
  (∀ i, toldOf os = .parse i → ∀ d H', Ex H H' → H' d = some (.xd [("number", .int (i : Nat))]) → E (.ref T.peC) (some d) H') ∧ (toldOf os = .question → ∀ H', Ex H H' → E (.ref T.InvalidQuestion.C) none H') ∧ (∀ ls, toldOf os = .lines ls → ∀ b H', Ex H H' → QuA T H' b ls → Q (.ref b) H')
def t_Question_from_lines (K : PySem.W.Frag) {mg : Str → Option Value} (T : Txt K mg) (E : XK) : TS :=
  (tSeq (tAsg (tMake T.qlC (sp_QuestionLines_init T) [] E0 tNil) (gName 2))
    (tSeq (tFor (iEnumT K (tCons (tVar 1) tNil)) (gTup K 2 (gCons (gName 3) (gCons (gName 4) gNil)))
    (tIfS (tNot (tB (tMeth T.qlC "takes_line" (sp_QuestionLines_takes_line T) [] E0 (tVar 2) (tCons (tVar 4) tNil)))) (fun _ σ H => tMkO T.peC (sp_ParseError_init T) [] (tCons (tVar 3) tNil) σ H fun cls d H' => E cls d H') tNext))
    (tRet (tMeth T.qlC "whole" (sp_QuestionLines_whole T) [] E (tVar 2) tNil))))
theorem lnsR_ok {K : PySem.W.Frag} {H : Hp} {vs : List V} {os : List (Option Str)} (h : LnsR K H vs os) : LinesOk os := by
  intro z hz
  unfold LnsR at h
  induction h with
  | nil => cases hz
  | @cons a b l1 l2 hd _ ih =>
    rcases List.mem_cons.mp hz with e | hz
    · subst e
      exact hd.2
    · exact ih hz
theorem q_forEnumT {K : PySem.W.Frag} {σ : L2.St} {H : Hp} {a : Addr} {xs : List V} {i1 i2 : Nat} {ta : TA} {D : Ends} {tu tz : TS} (h : EvA ta σ H [.ref a]) (hx : SqT K H a xs) (Pv : Nat → L2.St → Hp → Prop) (h0 : ∀ H1, Ex H H1 → Pv 0 σ H1) (hG : ∀ i σ' H', Pv i σ' H' → SqT K H' a xs)
    (hs : ∀ i x σ' H' T, xs[i]? = some x → H' T = none → Pv i σ' H' → tu { D with nx := Pv (i + 1), ct := Pv (i + 1), bk := tz D } ((σ'.set i1 (some (.int (i : Nat)))).set i2 (some x)) (upd H' T (.tup [.int (i : Nat), x]))) (hd : ∀ σ' H', Pv xs.length σ' H' → tz D σ' H') :
    tSeq (tFor (iEnumT K ta) (gTup K 2 (gCons (gName i1) (gCons (gName i2) gNil))) tu) tz D σ H :=
  h H (Ex.refl H) _ fun H1 e1 => ⟨a, xs, rfl, ex_t e1 hx, for_it walk_enumT Pv (h0 H1 e1) (fun i σ' H' _ p => hG i σ' H' p) (fun i v σ' H' H'' hi p y => by
    obtain ⟨T', x, rfl, hn, rfl, hxi⟩ := y
    exact ⟨T', _, rfl, SqT.of upd_same, rfl, _, _, rfl, _, _, rfl, rfl, hs i x σ' H' T' hxi hn p⟩) hd⟩
theorem pure_Question_from_lines {K : PySem.W.Frag} {mg : Str → Option Value} (T : Txt K mg) {vs : List V} {H : Hp} {Q : VK} {E : XK} (h : sp_Question_from_lines T vs H Q E) : t_Question_from_lines K T E { nx := fun _ H' => Q .non H', rt := Q } (start ["cls", "lines", "told", "index", "line"] vs) H := by
  obtain ⟨p, xs, os, rfl, hp, hL, hz, kp, kq, kl⟩ := h
  have hlen : xs.length = os.length := Paired.length hL
  have hOk := lnsR_ok hL
  refine q_asgQ (P := fun v H1 => ∃ a td sd, v = .ref a ∧ Ahead H H1 a td sd ∧ QlA T H1 a td sd qs0) (fun H1 e1 Q' q' a dx na nd hne => ⟨a, dx, H1, rfl, upd_same, ((Ex.refl H1).mut nd).mut na, na, fun H2 td sd e2 t0 s0 hQ => ⟨rfl, q' _ _ e2 ⟨a, td, sd, rfl, ⟨e1.trans e2, fresh_back e1 na, fresh_back e1 t0, fresh_back e1 s0⟩, hQ⟩⟩⟩) fun v H1 e1 hv => ?_
  obtain ⟨a, td, sd, rfl, hA0, hQ⟩ := hv
  refine q_forEnumT (ea_cons (ev_var rfl) ea_nil) (SqT.of (e1 _ _ hp)) (fun i σ' H' => ∃ (x1 x2 : Option V) (s : QS), σ' = [some (.ref T.Question.C), some (.ref p), some (.ref a), x1, x2] ∧ Ahead H H' a td sd ∧ QlA T H' a td sd s ∧ takeAll qs0 0 os = takeAll s i (os.drop i) ∧ QsOk s i) (fun H2 e2 => ⟨none, none, qs0, rfl, hA0.go e2, hQ.ex e2, rfl, qs0_ok⟩) (fun i σ' H' hP => ?_) (fun i x σ' H' T' hx hn hP => ?_) (fun σ' H' hP => ?_)
  · obtain ⟨_, _, _, _, hA, _⟩ := hP
    exact SqT.of (hA.e _ _ hp)
  · obtain ⟨x1, x2, s, rfl, hA, hQ', hT, hok⟩ := hP
    have e3 := Ex.new (H := H') (o := .tup [.int (i : Nat), x]) hn
    have na := hA.a0
    have t0 := hA.t0
    have s0 := hA.s0
    have hi : i < xs.length := (List.getElem?_eq_some_iff.mp hx).1
    have hA3 := hA.go e3
    have hQ3 := hQ'.ex e3
    obtain ⟨o, ho, hxo⟩ := paired_get hL hx
    have hdrop : os.drop i = o :: os.drop (i + 1) := by
      have hlt : i < os.length := by omega
      have : os[i] = o := by rw [List.getElem?_eq_getElem hlt] at ho; exact Option.some.inj ho
      rw [← this, List.getElem_cons_drop]
    obtain ⟨dx', fs, h1, h2⟩ := ql_ins hQ3
    refine ⟨.ref a, rfl, a, dx', fs, rfl, h1, h2 _ (by decide) (by decide) (by decide), x, rfl, a, td, sd, x, H, s, o, rfl, hA3, hQ3, hxo.ex (hA3.e), by have := hok.t; omega, by have := hok.z; omega, fun H4 e4 => ⟨fun s' hs hQ4 => ⟨true, rfl, ?_⟩, fun hs hQ4 => ⟨false, rfl, ?_⟩⟩⟩
    · show if (!true) = true then _ else _
      rw [if_neg (by decide)]
      refine ⟨_, _, s', rfl, ⟨e4, na, t0, s0⟩, hQ4, ?_, stepLine_ok hok (fun z hz => hOk z (by subst hz; exact List.mem_of_getElem? ho)) hs⟩
      rw [hT, hdrop, takeAll, hs]
    · show if (!false) = true then _ else _
      rw [if_pos (by decide)]
      refine ⟨.int (i : Nat), rfl, Nat.le_of_ble_eq_true rfl, fun b nb => ⟨b, .int (i : Nat), rfl, upd_same, fun d nd' hdb => ⟨rfl, d, [("number", .int (i : Nat))], upd_same, ?_, ?_, ?_⟩⟩⟩
      · rw [upd_ne hdb, upd_same]
      · rw [upd_ne hdb] at nd'; exact nd'
      · have hd : H4 d = none := by rw [upd_ne hdb] at nd'; exact nd'
        refine kp i ?_ d _ ?_ upd_same
        · unfold toldOf
          rw [hT, hdrop, takeAll, hs]
          rfl
        · intro c oc hc
          have hc4 := e4 _ _ hc
          have c1 : c ≠ d := ne_of_none hc4 hd
          have c2 : c ≠ b := ne_of_none hc4 nb
          rw [upd_ne c1, del_ne c2, upd_ne c2, upd_ne c1, upd_ne c2]
          exact hc4
  · obtain ⟨x1, x2, s, rfl, hA, hQ', hT, hok⟩ := hP
    rw [hlen, List.drop_length] at hT
    obtain ⟨dx', fs, h1, h2⟩ := ql_ins hQ'
    have ht : toldOf os = resOf (.inr s) := by unfold toldOf; rw [hT]; rfl
    refine ⟨.ref a, rfl, a, dx', fs, rfl, h1, h2 _ (by decide) (by decide) (by decide), a, td, sd, s, rfl, hQ', hok.mono (by omega), fun hb b H4 e4 hq => kl _ ?_ b H4 (hA.e.trans e4) hq, fun hb H4 e4 => kq ?_ H4 (hA.e.trans e4)⟩
    · rw [ht]
      show (if _ then _ else _) = _
      rw [if_pos hb]
    · rw [ht]
      show (if _ then _ else _) = _
      rw [if_neg (by rw [hb]; decide)]
theorem sc_Question_from_lines : FnScope ["cls", "lines", "told", "index", "line"] ["cls", "lines"] (defScope s_Question_from_lines) := ⟨rfl, rfl, rfl, by decide +kernel, rfl, by decide +kernel, by decide +kernel⟩
theorem d_Question_from_lines {P : Program} {w : World} {K : PySem.W.Frag} {mg : Str → Option Value} {base : Heap} (T : Txt K mg) {f : Addr} {cdv : Value} {A : Around} {outer : List Env} {s : Shared} {H : Hp} {E : XK} (hr : Room 8 (A.deeper (envOfC "Question.from_lines" (defScope s_Question_from_lines) s.heap.objs.size f cdv))) :
    PSs (cxOf (L2.CX P w) P w K mg base ["cls", "lines", "told", "index", "line"] "Question.from_lines" (defScope s_Question_from_lines) f cdv A outer s H E) (defBody s_Question_from_lines) (t_Question_from_lines K T E) := by
  have hu := hu_of hr
  exact (pss_cons (ps_asg (pe_make0 ⟨T.qlMk, T.QuestionLines_init.m.at_, T.QuestionLines_init.m.fn, T.qlK⟩ (ok_QuestionLines_init T) (hr.mono (by decide)) (by rfl) T.qlG (b_QuestionLines_init T) .nil pass0) (pg_name (i := 2) sc_Question_from_lines.nd rfl (Or.inl rfl)))
      (pss_cons (ps_for (passes_of rfl) rfl (pi_enumT (by rfl) T.b_enumerate (pa_cons (pv 1) pa_nil)) (pg_tup rfl (pgs_cons (pg_name (i := 3) sc_Question_from_lines.nd rfl (Or.inl rfl)) (pgs_cons (pg_name (i := 4) sc_Question_from_lines.nd rfl (Or.inl rfl)) pgs_nil)))
      (pss_one (ps_if (pt_not (pt_val (pe_meth (pv 2) T.qlCls T.QuestionLines_takes_line.m (ok_QuestionLines_takes_line T) (hr.mono (by decide)) (b_QuestionLines_takes_line T) .nil pass0 (pa_cons (pv 4) pa_nil)))) (pss_one (ps_raise rfl (takes_of rfl rfl rfl rfl) (pmk_oex T.peO T.peI.m.at_ (beq_iff_eq.mp T.peI.m.fn) (ok_ParseError_init T) (hr.mono (by decide)) (b_ParseError_init T) .nil pass0 (by rfl) T.peG (pa_cons (pv 3) pa_nil)))) pss_nil)))
      (pss_one (ps_ret (pe_meth0 (pv 2) T.qlCls T.QuestionLines_whole.m (ok_QuestionLines_whole T) (hr.mono (by decide)) (b_QuestionLines_whole T) .nil (passes_call (takes_of rfl rfl rfl rfl) fun _ _ _ _ h => h))))))
theorem r_Question_from_lines {P : Program} {w : World} {K : PySem.W.Frag} {mg : Str → Option Value} {base : Heap} (T : Txt K mg) : FnR P w K mg base (L2.CX P w) 9 T.Question_from_lines.f (fun vs H Q E => ∃ ws rest, vs = ws ++ rest ∧ ws.length = ["cls"].length ∧ rest.length ≤ sizeLine ∧ ∀ p, H p = Option.none → sp_Question_from_lines T (ws ++ [V.ref p]) (upd H p (.tup rest)) Q E) := by
  obtain ⟨oc, od, dV, kV, doc, pm, an, cdv, ct, osl, efd, lk, hcd, hdV, hkV⟩ := T.Question_from_lines.F.ex
  rcases hdV with ⟨_, edV⟩ | ⟨hd, _⟩
  · subst edV
    rw [efd] at lk
    have hbs := StX.bind_star1 (B := fun l => bindArgs (PySem.W.fnOf "from_lines" "Question.from_lines" (defArgs s_Question_from_lines) (defBody s_Question_from_lines) (defScope s_Question_from_lines) .none kV doc pm an cdv ct) ⟨l, []⟩) (p1 := "cls") (pv := "lines") (fun a => rfl) (fun a r rs => rfl)
    exact StX.fn_star (ps := ["cls"]) (pv := "lines") lk hcd sc_Question_from_lines StX.cxUp hbs fun A outer s H vs Q E hr h => ⟨t_Question_from_lines K T E, d_Question_from_lines T hr, pure_Question_from_lines T h⟩
  · exact absurd rfl hd

end K08

namespace K08
open PySem PySem.Spec PyProof.Rows L2 Evl
/-! ### lambdas without parameters, kept and called by the def that made them -/
section
open PySem.W LamX
/-- the function object at f: a lambda of the captured cells cl, its code object at c' -/
def LamObj (q : Str) (params : Arguments) (body : Expr) (scope : Scope) (cl : List (Str × Addr)) (f c' : Addr) : HO := .ext fun h => ∃ pm ctv, h.get? f = some (kla_obj "<lambda>" q params body scope cl pm c' ctv)
theorem lamObj_ne {q : Str} {params : Arguments} {body : Expr} {scope : Scope} {cl : List (Str × Addr)} {f c' : Addr} (ps : Array Value) : LamObj q params body scope cl f c' ≠ .tbl ps := fun z => nomatch z
variable {X : Cx} {pins : List (Addr × Obj)} {σ : L2.St} {H : Hp} {s : Shared}
theorem inv_lam {q : Str} {params : Arguments} {body : Expr} {scope : Scope} {cl : List (Str × Addr)} {c' : Addr} {pm ctv : Value} {h : Heap} {t' : Nat} (I : Inv X pins σ H { s with heap := h, toks := t' }) :
    Inv X pins σ (upd H h.objs.size (LamObj q params body scope cl h.objs.size c')) { s with heap := h.push (kla_obj "<lambda>" q params body scope cl pm c' ctv), toks := t' } := by
  refine I.laid (a := h.objs.size) (t' := t') (fun b u e => Heap.get?_push_of_some _ e) (Nat.le_refl _) ?_
  have e : (h.push (kla_obj "<lambda>" q params body scope cl pm c' ctv)).get? h.objs.size = some (kla_obj "<lambda>" q params body scope cl pm c' ctv) := Heap.get?_push_size _ rfl
  exact ⟨⟨pm, ctv, e⟩, ⟨_, e⟩, fun h1 h2 ⟨p, t, z⟩ st => ⟨p, t, st _ z⟩⟩
theorem lam_make3 {T : List (Addr × Str)} {c P : Addr} {params : Arguments} {body : Expr} {scope : Scope} {pos : Pos} {E : Value → Shared → Prop} {Q : Value → Shared → Prop} (I : Inv X pins σ H s) (TB : TabB X.base X.mg c P) (hcode : X.env.code = .ref c)
    (hm : (P, X.env.qual ++ "<lambda>") ∈ T) (hu : ∀ p ∈ T, p.1 = P → p.2 = X.env.qual ++ "<lambda>") (hT : Tabs T H) (hdef : defaultsOf params X.env = ([], [])) (hfree : ∀ y ∈ scope.names, y.2 = .free → ∃ c, X.env.cells.lookup y.1 = some c)
    (h : ∀ (f c' : Addr) (H1 : Hp) (s' : Shared), Inv X pins σ H1 s' → ExtN H H1 → Tabs T H1 → H f = none → H1 f = some (LamObj (X.env.qual ++ "<lambda>") params body scope (cloFrom X.env.cells scope.names []) f c') → H1 c' = some (CodeO c' (X.env.qual ++ "<lambda>")) → Q (.ref f) s') :
    wpAny (model X.prog X.w) X.A (eval (.Lambda params body scope pos) X.env) Q E s := by
  obtain ⟨ps, hP, ht, ha⟩ := hT _ hm
  refine PySem.W.kla_eval hdef ?_
  have bP : s.heap.BuiltinsAt X.mg P := TB.bm.keeps I.bk
  have hP' : s.heap.get? P = some { cls := .none, data := .fields ps } := I.hok P _ hP
  cases hc : codeAmong pos ps.toList with
  | none =>
    refine PySem.W.kla_makeFunction (mg := X.mg) (c := c) (P := P) (ps := ps) (closure_ok hfree) I.ok.glob (I.mod.glob.keeps I.bk) hcode (TB.code.keeps I.bk) hP' ht hc TB.gP bP fun c' ctv h' tk hx hge hlt hrec htb => ?_
    obtain ⟨c2, oc, vs, t, e2, hoc, hd, hv⟩ := hrec
    cases e2
    have nC : H c' = none := I.hok.fresh hge
    have I1 := inv_table (t' := tk) (more := #[rawInt pos.line, rawInt pos.col, .ref c']) (h' := h') I hP (fun b o hb e => hx b o hb e) htb hge ⟨oc, vs, t, hoc, hd, hv⟩
    have hE : ExtN H (upd (upd H P (.tbl (ps ++ #[rawInt pos.line, rawInt pos.col, .ref c']))) c' (CodeO c' (X.env.qual ++ "<lambda>"))) := fun b o e n => by
      rw [upd_ne (ne_of_none e nC), upd_ne (fun z => n ps (Option.some.inj (e.symm.trans (by rw [z]; exact hP))))]
      exact e
    have eL : (ps ++ #[rawInt pos.line, rawInt pos.col, .ref c']).toList = ps.toList ++ [rawInt pos.line, rawInt pos.col, .ref c'] := by simp
    have T1 : Tabs T (upd (upd H P (.tbl (ps ++ #[rawInt pos.line, rawInt pos.col, .ref c']))) c' (CodeO c' (X.env.qual ++ "<lambda>"))) := fun p hp => by
      by_cases hb : p.1 = P
      · rw [hu p hp hb, hb]
        refine ⟨_, by rw [upd_ne (ne_of_none hP nC), upd_same], by rw [eL]; exact PySem.TriplesOk_snoc _ _ _ _ ht, fun p' cv hcv => ?_⟩
        rw [eL] at hcv
        rcases among_app _ ht hcv with z | z
        · obtain ⟨c0, e1, e2⟩ := ha p' cv z
          exact ⟨c0, e1, hE _ _ e2 codeO_ne⟩
        · exact ⟨c', z, upd_same⟩
      · obtain ⟨ps', a1, a2, a3⟩ := hT p hp
        refine ⟨ps', by rw [upd_ne (ne_of_none a1 nC), upd_ne hb]; exact a1, a2, fun p' cv hcv => ?_⟩
        obtain ⟨c0, e1, e2⟩ := a3 p' cv hcv
        exact ⟨c0, e1, hE _ _ e2 codeO_ne⟩
    have nF := I1.hok.fresh (Nat.le_refl _)
    have I2 := inv_lam (q := X.env.qual ++ "<lambda>") (params := params) (body := body) (scope := scope) (cl := cloFrom X.env.cells scope.names []) (c' := c') (pm := (X.mg "__name__").getD .none) (ctv := ctv) I1
    refine h h'.objs.size c' _ _ I2 (fun b o e n => ?_) (T1.ext fun b o e => ?_) (I.hok.fresh (Nat.le_trans hge (Nat.le_of_lt hlt))) upd_same ?_
    · have e1 := hE b o e n
      exact (upd_ne (ne_of_none e1 nF)).trans e1
    · exact (upd_ne (ne_of_none e nF)).trans e
    · exact (upd_ne (Nat.ne_of_lt hlt)).trans upd_same
  | some cv =>
    obtain ⟨c', e, hco⟩ := ha pos cv hc
    subst e
    refine PySem.W.kla_makeFunctionHit (mg := X.mg) (c := c) (P := P) (ps := ps) (closure_ok hfree) I.ok.glob (I.mod.glob.keeps I.bk) hcode (TB.code.keeps I.bk) hP' ht hc bP fun ctv h' tk hx hsz => ?_
    have I1 : Inv X pins σ H { s with heap := h', toks := tk } := I.kept hx
    have nF : H h'.objs.size = none := I1.hok.fresh (Nat.le_refl _)
    have I2 := inv_lam (q := X.env.qual ++ "<lambda>") (params := params) (body := body) (scope := scope) (cl := cloFrom X.env.cells scope.names []) (c' := c') (pm := (X.mg "__name__").getD .none) (ctv := ctv) I1
    refine h h'.objs.size c' _ _ I2 (fun b o e n => ?_) (hT.ext fun b o e => ?_) nF upd_same ?_
    · exact (upd_ne (ne_of_none e nF)).trans e
    · exact (upd_ne (ne_of_none e nF)).trans e
    · exact (upd_ne (ne_of_none hco nF)).trans hco
/-- lambda: body -/
def tLam0 (T : List (Addr × Str)) (q : Str) (mk : Addr → Addr → HO) : TE := fun _ H Q => Tabs T H ∧ ∀ (f c' : Addr) (H1 : Hp), ExtN H H1 → Tabs T H1 → H f = none → H1 f = some (mk f c') → H1 c' = some (CodeO c' q) → Q (.ref f) H1
theorem pe_lam0 {T : List (Addr × Str)} {c P : Addr} {params : Arguments} {body : Expr} {scope : Scope} {pos : Pos} (TB : TabB X.base X.mg c P) (hcode : X.env.code = .ref c)
    (hm : (P, X.env.qual ++ "<lambda>") ∈ T) (hu : ∀ p ∈ T, p.1 = P → p.2 = X.env.qual ++ "<lambda>") (L : LamS X.env.scope scope) (hdef : defaultsOf params X.env = ([], [])) :
    PE X (.Lambda params body scope pos) (tLam0 T (X.env.qual ++ "<lambda>") (LamObj (X.env.qual ++ "<lambda>") params body scope (cloFrom X.env.cells scope.names []))) := by
  refine ⟨fun pins s σ H Q I h => ?_⟩
  obtain ⟨hT, h⟩ := h
  exact lam_make3 I TB hcode hm hu hT hdef (L.has I.ok) fun f c' H1 s' I1 e1 T1 n1 h1 h2 => ⟨.ref f, H1, I1, rfl, h f c' H1 e1 T1 n1 h1 h2⟩
/-- what a family of lambdas is, by its number -/
structure LamF where
  params : Nat → Arguments
  body : Nat → Expr
  scope : Nat → Scope
/-- fe(), fe one of the lambdas that this def has made -/
def tCallLam (q : Str) (F : LamF) (cells : List (Str × Addr)) (n : Nat) (tb : Nat → TE) (tf : TE) : TE := fun σ H Q => tf σ H fun v H1 => ∃ (i : Nat) (f c' : Addr), i < n ∧ v = .ref f ∧ H1 f = some (LamObj q (F.params i) (F.body i) (F.scope i) (cloFrom cells (F.scope i).names []) f c') ∧ H1 c' = some (CodeO c' q) ∧ tb i σ H1 Q
theorem pe_callLam {F : LamF} {n k : Nat} {fe : Expr} {tf : TE} {tb : Nat → TE} {E : XK} {W : WX} {pos : Pos} (hf : PE X fe tf) (L : ∀ i, i < n → LamS X.env.scope (F.scope i))
    (hbind : ∀ i, i < n → ∀ (cl : List (Str × Addr)) (pm cv ctv : Value), bindArgs (kla_fn "<lambda>" (X.env.qual ++ "<lambda>") (F.params i) (F.body i) (F.scope i) cl pm cv ctv) ⟨[], []⟩ = pure [])
    (tk : Takes X W) (hW : ∀ cls d σ' H', E cls d H' → W cls d σ' H') (hr : Room (k + 1) X.A)
    (hbody : ∀ i, i < n → ∀ (f c' : Addr) (A : Around) (outer : List Env) (s : Shared) (H : Hp), Room k (A.deeper (lamEnv X (F.scope i) s.heap.objs.size f c')) → PE (lamCx X A outer s H E (F.scope i) f c') (F.body i) (tb i))
    (ht : eval (.Call fe [] [] pos) X.env = (do callWith pos (← eval fe X.env) [] (backTo pos (starEach [] X.env)) (backToKw pos (keywordEach [] X.env))) := by rfl) :
    PE X (.Call fe [] [] pos) (tCallLam (X.env.qual ++ "<lambda>") F X.env.cells n tb tf) := by
  refine ⟨fun pinsZ s σ H0 Q I h => ?_⟩
  rw [ht]
  refine wpAny_bind (thn (hf.run pinsZ s σ H0 _ I h) fun u s1 ⟨v, HZ, I1, rv, i, f, c', hi, ev, hof, hc, hq⟩ => ?_)
  subst ev
  cases (show u = Value.ref f from rv)
  obtain ⟨⟨pm, ctv, of1⟩, _, _⟩ := I1.hok f _ hof
  obtain ⟨⟨oc, vs, t, hoc, hdc, hvc⟩, _, _⟩ := I1.hok c' _ hc
  refine PySem.W.callWith_F0 (first := []) ⟨_, _, _, _, of1⟩ ?_
  have Li := L i hi
  have rc : codeAny (model X.prog X.w) X.A (.call (.ref f) ⟨[], []⟩) (CR (L2.CX X.prog X.w) X.stack X.prog X.w HZ s1 Q E) s1 := by
    refine PySem.W.kla_callFunE hr.depth of1 rfl Li.co Li.gen rfl ⟨c', oc, vs, t, rfl, hoc, hdc, hvc⟩ ?_
    rw [hbind i hi]
    refine wpAny_pure (wpAny_newFunctionEnv (fun y hy => (Li.own y hy).2) (fun y hy => absurd hy (by simp)) (fun h₁ hns hsb => ⟨I1.nolimit.fresh _ hsb, ?_⟩) Li.kind)
    show codeAny _ _ (.expr (F.body i) (lamEnv X (F.scope i) s1.heap.objs.size f c')) _ _
    have kp : ∀ b o, s1.heap.get? b = some o → h₁.get? b = some o := fun b o e => hsb.extBut b o (Nat.ne_of_lt (Heap.lt_size e)) (Heap.get?_push_of_some _ e)
    have J : Inv (lamCx X X.A X.stack s1 HZ E (F.scope i) f c') [] σ HZ { s1 with heap := h₁, toks := s1.toks + ([] : List (Str × Value)).length } :=
      lam_start2 I1 Li I1.env0 hr.hd Un.refl hns kp
    refine PySem.W.kla_codeExpr (wpAny_mono ((hbody i hi f c' _ _ s1 HZ (hr.deeper _)).run [] _ _ HZ Q J hq) (fun v s' hq => ?_) fun e s' hq => hq)
    obtain ⟨w', H', J', rv, q⟩ := hq
    exact ⟨w', H', J'.os, J'.bare, J'.base, J'.hok, rv, q⟩
  have hx : Passes (L2.CX X.prog X.w) X E := passes_call tk hW
  refine wpAny_call (codeAny_mono rc fun r s' hq => ?_)
  cases r with
  | error e => exact hx pinsZ σ HZ s1 e s' I1 hq
  | ok fl =>
    cases fl with
    | ret u => exact I1.after hq
    | next => exact False.elim hq
    | brk => exact False.elim hq
    | cont => exact False.elim hq
end

end K08

namespace K08
open PySem PySem.Spec PyProof.Rows L2 Evl
/-! ### the dice: a list of three numbers of which only so much is known -/
def DiceO (p : Addr) : HO := .ext fun h => ∃ (a b c : Int) (t u w : Tok) (n : Nat), 0 ≤ a ∧ h.get? p = some { cls := .type "list", data := .seq #[.int a t, .int b u, .int c w] n }
abbrev dl (a b c : Int) : HO := .lst [.int a, .int b, .int c]
section
variable {X : Cx} {pins : List (Addr × Obj)} {σ : L2.St} {H : Hp} {s : Shared} {p : Addr}
theorem dice_open (I : Inv X pins σ H s) (h : H p = some (DiceO p)) : ∃ a b c : Int, 0 ≤ a ∧ Inv X pins σ (upd H p (dl a b c)) s := by
  obtain ⟨⟨a, b, c, t, u, w, n, ha, e⟩, _, _⟩ := I.hok p _ h
  refine ⟨a, b, c, ha, ?_⟩
  exact I.write (x := p) (e := p) (o := dl a b c) (h' := s.heap) (t' := s.toks) (by rw [h]; trivial) (.inl rfl) (fun b u _ e => e) ⟨_, e⟩ ⟨by rw [sizeLine_eq]; exact (by decide : 3 ≤ 16777216), [.int a t, .int b u, .int c w], n, .cons ⟨t, rfl⟩ (.cons ⟨u, rfl⟩ (.cons ⟨w, rfl⟩ .nil)), e⟩
theorem dice_close {a b c : Int} (I : Inv X pins σ H s) (h : H p = some (dl a b c)) (ha : 0 ≤ a) : Inv X pins σ (upd H p (DiceO p)) s := by
  obtain ⟨z, its, n, r, e⟩ := I.hok p _ h
  cases r with
  | cons r1 r =>
  cases r with
  | cons r2 r =>
  cases r with
  | cons r3 r =>
  cases r
  obtain ⟨t, rfl⟩ := r1
  obtain ⟨u, rfl⟩ := r2
  obtain ⟨w, rfl⟩ := r3
  exact I.write (x := p) (e := p) (o := DiceO p) (h' := s.heap) (t' := s.toks) (by rw [h]; trivial) (.inl rfl) (fun b u _ e => e) ⟨_, e⟩ ⟨⟨a, b, c, t, u, w, n, ha, e⟩, ⟨_, e⟩, fun h1 h2 ⟨a, b, c, t, u, w, n, ha, z⟩ st => ⟨a, b, c, t, u, w, n, ha, st _ z⟩⟩
end
/-- a call that casts the dice -/
def tClD (sp : Sp) (t : TA) : TE := fun σ H Q => t σ H fun vs H1 => ∃ p, H1 p = some (DiceO p) ∧ ∀ a b c, 0 ≤ a → sp vs (upd H1 p (dl a b c)) (fun v H2 => ∃ a' b' c', 0 ≤ a' ∧ H2 p = some (dl a' b' c') ∧ Q v (upd H2 p (DiceO p))) E0
theorem pe_clD {X : Cx} {e : Expr} {es : List Expr} {t : TA} {k j : Nat} {x : Str} {sp : Sp} {p pos : Pos} (c : Cl X.prog X.w X.K X.mg X.base k x sp) (hr : Room j X.A) (ha : PA X (e :: es) t) (hk : k ≤ j := by decide) (hg : Gl X x := by rfl) (hdb : (x == ("__debug__" : Str)) = false := by decide)
    (he : starEach (e :: es) X.env = (false, eval e X.env) :: starEach es X.env := by rfl) (hpl : (backTo pos (starEach es X.env)).any (·.1) = false := by rfl) : PE X (.Call (.Name x p) (e :: es) [] pos) (tClD sp t) := by
  obtain ⟨f, fd, ps, F, g, kp, b⟩ := c.ex
  refine ⟨fun pins s σ H Q I h => ?_⟩
  refine wpAny_Call_Name_kw (ld_glob I hg g ?_ hdb)
  refine PySem.W.callWith_K (h₀ := X.base) I.ok.mod.kin kp (thn (ha.run pos pins s σ H _ I h) fun us s1 ⟨vs, H1, I1, r, q⟩ => ⟨I1.kIn, ?_⟩) he hpl
  obtain ⟨q0, hq, k0⟩ := q
  obtain ⟨a, b', c', h0, I2⟩ := dice_open I1 hq
  refine thn (run_fn (Q := fun v H2 => ∃ a' b' c', 0 ≤ a' ∧ H2 q0 = some (dl a' b' c') ∧ Q v (upd H2 q0 (DiceO q0))) (E := E0) F (hr.mono hk) b .nil pass0 I2 r (by rw [List.append_nil]; exact k0 a b' c' h0)) fun u s2 ⟨v, H3, I3, rv, a2, b2, c2, h2, h3, k3⟩ => ?_
  exact ⟨v, _, dice_close I3 h3 h2, rv, k3⟩
/-- a new list of three numbers becomes dice -/
def tClose (t : TE) : TE := fun σ H Q => t σ H fun v H1 => ∃ p a b c, v = .ref p ∧ H1 p = some (dl a b c) ∧ 0 ≤ a ∧ Q v (upd H1 p (DiceO p))
theorem pe_close {X : Cx} {e : Expr} {t : TE} (h : PE X e t) : PE X e (tClose t) := ⟨fun pins s σ H Q I q => thn (h.run pins s σ H _ I q) fun u s1 ⟨v, H1, I1, r, p, a, b, c, ev, hp, h0, k⟩ => ⟨v, _, dice_close I1 hp h0, r, k⟩⟩

/-! ### _law_roll -/
def t__law_roll (K : PySem.W.Frag) : TS :=
  (tSeq (tIfS (tTest (tOp rGtI (tOp (rIxL K) (tVar 0) (tC (.int 0))) (tC (.int 0)))) (tSeq (tAsg (tOp rModP (tCB rInt1 (tCons (tOp (rIxL K) (tVar 0) (tC (.int 0))) tNil)) (tVar 1)) (gName 2))
    (tSeq (tAsg (tOp rDivW (tOp (rIxL K) (tVar 0) (tC (.int 0))) (tVar 1)) (gSub (tVar 0) (tC (.int 0)) rSetL))
    (tRet (tVar 2)))) tNext)
    (tSeq (tAsg (tOp rPlus (tOp (rIxL K) (tVar 0) (tC (.int 2))) (tC (.int 1))) (gSub (tVar 0) (tC (.int 2)) rSetL))
    (tSeq (tAsg (tOp rModP (tCB rInt1 (tCons (tOp rPlus (tOp (rIxL K) (tVar 0) (tC (.int 1))) (tOp rTimes (tC (.int 8111)) (tOp (rIxL K) (tVar 0) (tC (.int 2))))) tNil)) (tC (.int 2305843009213693723))) (gName 3))
    (tSeq (tAsg (tOp rPlus (tOp rTimes (tOp rModP (tCB rInt1 (tCons (tOp rPlus (tOp rTimes (tVar 3) (tVar 3)) (tOp rTimes (tC (.int 71)) (tOp (rIxL K) (tVar 0) (tC (.int 2))))) tNil)) (tC (.int 2305843009213693669))) (tC (.int 7368787))) (tVar 3)) (gName 4))
    (tRet (tOp rModP (tCB rInt1 (tCons (tOp rDivP (tVar 4) (tC (.int 32768))) tNil)) (tVar 1)))))))
def sp__law_roll : Sp := fun vs H Q _ => ∃ (p : Addr) (n a b c : Int), vs = [.ref p, .int n] ∧ H p = some (dl a b c) ∧ 0 ≤ a ∧ 1 ≤ n ∧ n ≤ 1000 ∧ ∀ H' r a' b' c', Ex (del H p) H' → H' p = some (dl a' b' c') → 0 ≤ a' → 0 ≤ r → r < n → Q (.int r) H'
theorem len__law_roll : ∀ vs H Q E, sp__law_roll vs H Q E → vs.length = 2 := fun vs H Q E ⟨_, _, _, _, _, e, _⟩ => by rw [e]; rfl
theorem ex_del {H H1 : Hp} {p : Addr} {o : HO} (e : Ex H H1) : Ex (del H p) (upd H1 p o) := fun b u hb => by
  by_cases h : b = p
  · subst h; rw [del_same] at hb; cases hb
  · rw [del_ne h] at hb; rw [upd_ne h]; exact e b u hb
theorem ex_del2 {H H1 : Hp} {p : Addr} (e : Ex H H1) : Ex (del H p) H1 := fun b u hb => by
  by_cases h : b = p
  · subst h; rw [del_same] at hb; cases hb
  · rw [del_ne h] at hb; exact e b u hb
theorem divN {a n : Int} (h1 : 1 ≤ n) (h2 : n ≤ 1000) : CDivW a n := wide_div (b := 200) (by omega) (by
  have : (1000 : Nat) < 2 ^ 200 := by decide
  omega) (by decide) (by decide)
theorem pure__law_roll {K : PySem.W.Frag} {vs : List V} {H : Hp} {Q : VK} {E : XK} (h : sp__law_roll vs H Q E) : t__law_roll K { nx := fun _ H' => Q .non H', rt := Q } (start ["_law_dice_here", "_law_total", "_law_found", "_law_one", "_law_two"] vs) H := by
  obtain ⟨p, n, a, b, c, rfl, hp, h0, h1, h2, k⟩ := h
  have i0 : ∀ {H1 : Hp} {x : Option V} {y z : Option V} {a b c : Int}, H1 p = some (dl a b c) → Ev (tOp (rIxL K) (tVar 0) (tC (.int 0))) [some (.ref p), some (.int n), x, y, z] H1 (.int a) := fun h => ev_op (ev_var rfl) ev_c (rv_ixL (SqL.of h) rfl)
  have i1 : ∀ {H1 : Hp} {x : Option V} {y z : Option V} {a b c : Int}, H1 p = some (dl a b c) → Ev (tOp (rIxL K) (tVar 0) (tC (.int 1))) [some (.ref p), some (.int n), x, y, z] H1 (.int b) := fun h => ev_op (ev_var rfl) ev_c (rv_ixL (SqL.of h) rfl)
  have i2 : ∀ {H1 : Hp} {x : Option V} {y z : Option V} {a b c : Int}, H1 p = some (dl a b c) → Ev (tOp (rIxL K) (tVar 0) (tC (.int 2))) [some (.ref p), some (.int n), x, y, z] H1 (.int c) := fun h => ev_op (ev_var rfl) ev_c (rv_ixL (SqL.of h) rfl)
  refine q_when (et_test (ev_op (i0 hp) ev_c rv_I0)) (fun hb H1 e1 => ?_) fun hb H1 e1 => ?_
  · have hp1 := e1 _ _ hp
    refine q_asg (ev_op (ev_int1 (i0 hp1)) (ev_var rfl) (rv_I (show (0 : Int) < n by omega))) fun H2 e2 => ?_
    have hp2 := e2 _ _ hp1
    refine q_setL (j := 0) hp2 (ev_op (i0 hp2) (ev_var rfl) (rv_I (divN h1 h2))) (ev_var rfl) ev_c (show 0 < 3 by decide) fun H3 e3 => ?_
    refine s_ret (ev_var rfl) fun H4 e4 => ?_
    exact k H4 (a % n) (a / n) b c ((ex_del ((e1.trans e2).trans e3)).trans e4) (e4 _ _ upd_same) (Int.ediv_nonneg h0 (by omega)) (Int.emod_nonneg _ (by omega)) (Int.emod_lt_of_pos _ (by omega))
  · have hp1 := e1 _ _ hp
    refine q_setL (j := 2) hp1 (ev_op (i2 hp1) ev_c rv_I0) (ev_var rfl) ev_c (show 2 < 3 by decide) fun H2 e2 => ?_
    have hp2 : upd H2 p (.lst ([V.int a, .int b, .int c].set 2 (.int (c + 1)))) p = some (dl a b (c + 1)) := upd_same
    refine q_asg (ev_op (ev_int1 (ev_op (i1 hp2) (ev_op ev_c (i2 hp2) (rv_I (.inl (by decide)))) rv_I0)) ev_c (rv_I (by decide))) fun H3 e3 => ?_
    have hp3 := e3 _ _ hp2
    have b1 := Int.emod_nonneg (b + 8111 * (c + 1)) (show (2305843009213693723 : Int) ≠ 0 by decide)
    have b2 := Int.emod_lt_of_pos (b + 8111 * (c + 1)) (show (0 : Int) < 2305843009213693723 by decide)
    generalize (b + 8111 * (c + 1)) % 2305843009213693723 = one at *
    refine q_asg (ev_op (ev_op (ev_op (ev_int1 (ev_op (ev_op (ev_var rfl) (ev_var rfl) (rv_I (.inl (by constructor <;> omega)))) (ev_op ev_c (i2 hp3) (rv_I (.inl (by decide)))) rv_I0)) ev_c (rv_I (by decide))) ev_c (rv_I (.inr (by decide)))) (ev_var rfl) rv_I0) fun H4 e4 => ?_
    refine s_ret (ev_op (ev_int1 (ev_op (ev_var rfl) ev_c (rv_I (⟨by decide, by decide⟩ : (0 : Int) < 32768 ∧ (32768 : Int) < 1073741824)))) (ev_var rfl) (rv_I (show (0 : Int) < n by omega))) fun H5 e5 => ?_
    exact k H5 _ a b (c + 1) ((ex_del (e1.trans e2)).trans ((e3.trans e4).trans e5)) (e5 _ _ (e4 _ _ hp3)) h0 (Int.emod_nonneg _ (by omega)) (Int.emod_lt_of_pos _ (by omega))
theorem sc__law_roll : FnScope ["_law_dice_here", "_law_total", "_law_found", "_law_one", "_law_two"] ["_law_dice_here", "_law_total"] (defScope s__law_roll) := ⟨rfl, rfl, rfl, by decide +kernel, rfl, by decide +kernel, by decide +kernel⟩
theorem d__law_roll {P : Program} {w : World} {K : PySem.W.Frag} {mg : Str → Option Value} {base : Heap} (T : Txt K mg) {f : Addr} {cdv : Value} {A : Around} {outer : List Env} {s : Shared} {H : Hp} {E : XK} (hr : Room 0 (A.deeper (envOfC "_law_roll" (defScope s__law_roll) s.heap.objs.size f cdv))) :
    PSs (cxOf CX0 P w K mg base ["_law_dice_here", "_law_total", "_law_found", "_law_one", "_law_two"] "_law_roll" (defScope s__law_roll) f cdv A outer s H E).nox (defBody s__law_roll) (t__law_roll K) := by
  have hu := hu_of hr
  exact (pss_cons (ps_if (pt_cmpR op_gt (pe_ix ix_list (pv 0) pe_int (fun _ _ => rfl)) pe_int (nomark _)) (pss_cons (ps_asg (pe_op op_mod (pe_callTy call_int1 (by rfl) T.b_int (by decide +kernel) (pa_cons (pe_ix ix_list (pv 0) pe_int (fun _ _ => rfl)) pa_nil)) (pv 1)) (pg_name (i := 2) sc__law_roll.nd rfl (Or.inl rfl)))
      (pss_cons (ps_asg (pe_op op_fdivW (pe_ix ix_list (pv 0) pe_int (fun _ _ => rfl)) (pv 1)) (pg_sub (pv 0) pe_int set_list))
      (pss_one (ps_ret (pv 2))))) pss_nil)
      (pss_cons (ps_asg (pe_op op_add (pe_ix ix_list (pv 0) pe_int (fun _ _ => rfl)) pe_int) (pg_sub (pv 0) pe_int set_list))
      (pss_cons (ps_asg (pe_op op_mod (pe_callTy call_int1 (by rfl) T.b_int (by decide +kernel) (pa_cons (pe_op op_add (pe_ix ix_list (pv 0) pe_int (fun _ _ => rfl)) (pe_op op_mul pe_int (pe_ix ix_list (pv 0) pe_int (fun _ _ => rfl)))) pa_nil)) pe_int) (pg_name (i := 3) sc__law_roll.nd rfl (Or.inl rfl)))
      (pss_cons (ps_asg (pe_op op_add (pe_op op_mul (pe_op op_mod (pe_callTy call_int1 (by rfl) T.b_int (by decide +kernel) (pa_cons (pe_op op_add (pe_op op_mul (pv 3) (pv 3)) (pe_op op_mul pe_int (pe_ix ix_list (pv 0) pe_int (fun _ _ => rfl)))) pa_nil)) pe_int) pe_int) (pv 3)) (pg_name (i := 4) sc__law_roll.nd rfl (Or.inl rfl)))
      (pss_one (ps_ret (pe_op op_mod (pe_callTy call_int1 (by rfl) T.b_int (by decide +kernel) (pa_cons (pe_op op_fdiv (pv 4) pe_int) pa_nil)) (pv 1))))))))
theorem ok__law_roll {P : Program} {w : World} {K : PySem.W.Frag} {mg : Str → Option Value} {base : Heap} (T : Txt K mg) : FnOk P w K mg base CX0 1 T.l_roll.f T.l_roll.fd ["_law_dice_here", "_law_total"] (sp__law_roll) :=
  ok0 T.l_roll.F sc__law_roll len__law_roll fun cdv A outer s H vs Q E hr h => ⟨t__law_roll K, d__law_roll T hr, pure__law_roll h⟩
theorem cl__law_roll {P : Program} {w : World} {K : PySem.W.Frag} {mg : Str → Option Value} {base : Heap} (T : Txt K mg) : Cl P w K mg base 1 "_law_roll" sp__law_roll := cl_of T.l_roll (ok__law_roll T) fun _ _ _ _ _ _ us hl => match us, hl with | [_, _], _ => rfl
theorem ex_cast {H1 H2 H3 : Hp} {p : Addr} {u d : HO} (e : Ex H1 H2) (hp : H1 p = some u) (e3 : Ex (del (upd H2 p d) p) H3) : Ex H1 (upd H3 p u) := fun b o hb => by
  by_cases h : b = p
  · subst h; rw [hp] at hb; rw [upd_same]; exact hb
  · rw [upd_ne h]; exact e3 b o (by rw [del_ne h, upd_ne h]; exact e b o hb)
/-- a cast of the dice -/
theorem eq_roll {σ : L2.St} {H : Hp} {td tn : TE} {p : Addr} {n : Int} (hd : Ev td σ H (.ref p)) (hn : Ev tn σ H (.int n)) (hp : H p = some (DiceO p)) (h1 : 1 ≤ n) (h2 : n ≤ 1000) : EvQ (tClD sp__law_roll (tCons td (tCons tn tNil))) σ H (fun v _ => ∃ r, v = .int r ∧ 0 ≤ r ∧ r < n) := fun H1 e Q q =>
  (ea_cons hd (ea_cons hn ea_nil)) H1 e _ fun H2 e2 => ⟨p, e2 _ _ (e _ _ hp), fun a b c h0 => ⟨p, n, a, b, c, rfl, upd_same, h0, h1, h2, fun H3 r a' b' c' e3 hp3 h0' r0 r1 => ⟨a', b', c', h0', hp3, q _ _ (ex_cast e2 (e _ _ hp) e3) ⟨r, rfl, r0, r1⟩⟩⟩⟩

end K08

namespace K08
open PySem PySem.Spec PyProof.Rows L2 Evl
/-! ### _law_dice -/
def t__law_dice (K : PySem.W.Frag) : TS :=
  (tSeq (tAsg (tIf (tTest (tOp rLtI (tVar 1) (tCB (rLenS K) (tCons (tVar 0) tNil)))) (tCB rInt1 (tCons (tOp (rIxL K) (tVar 0) (tVar 1)) tNil)) (tOp rPlus (tOp rTimes (tC (.int 59)) (tVar 1)) (tC (.int 13)))) (gName 2))
    (tSeq (tAsg (tOp rModP (tCB rAbs (tCons (tVar 2) tNil)) (tOp rPow (tC (.int 10)) (tC (.int 58)))) (gName 3))
    (tSeq (tAsg (tCB rMax2 (tCons (tC (.int 0)) (tCons (tOp rMinus (tCB rAbs (tCons (tVar 2) tNil)) (tOp rPow (tC (.int 10)) (tC (.int 17)))) tNil))) (gName 4))
    (tRet (tLst (tCons (tOp rModP (tVar 4) (tOp rTimesW (tOp rPow (tC (.int 10)) (tC (.int 60))) (tOp rPow (tC (.int 10)) (tC (.int 60))))) (tCons (tOp rPlus (tOp rPlus (tOp rPlus (tOp rTimes (tOp rModP (tVar 3) (tC (.int 2147483563))) (tC (.int 41))) (tOp rTimes (tC (.int 709)) (tVar 1))) (tOp rTimes (tC (.int 17)) (tCB rInt1 (tCons (tOp rLtI (tVar 2) (tC (.int 0))) tNil)))) (tC (.int 3))) (tCons (tC (.int 0)) tNil))))))))
def sp__law_dice (K : PySem.W.Frag) : Sp := fun vs H Q _ => ∃ (a : Addr) (ns : List Int) (s : Nat), vs = [.ref a, .int s] ∧ SqL K H a (ns.map V.int) ∧ s ≤ 10 ∧ ∀ p H' x y z, H p = none → Ex H H' → H' p = some (dl x y z) → 0 ≤ x → Q (.ref p) H'
theorem len__law_dice {K : PySem.W.Frag} : ∀ vs H Q E, sp__law_dice K vs H Q E → vs.length = 2 := fun vs H Q E ⟨_, _, _, e, _⟩ => by rw [e]; rfl
theorem atI_nat {xs : List V} {i : Nat} {v : V} (h : xs[i]? = some v) : atI xs (i : Int) = some v := by
  unfold atI
  have hlt := (List.getElem?_eq_some_iff.mp h).1
  rw [ixN_nat hlt]
  exact h
theorem pure__law_dice {K : PySem.W.Frag} {vs : List V} {H : Hp} {Q : VK} {E : XK} (h : sp__law_dice K vs H Q E) : t__law_dice K { nx := fun _ H' => Q .non H', rt := Q } (start ["_law_script", "_law_spot", "_law_cell", "_law_great", "_law_left"] vs) H := by
  obtain ⟨a, ns, s, rfl, ha, hs, k⟩ := h
  refine q_asg (v := .int (if s < ns.length then ns.getD s 0 else 59 * s + 13)) (ev_if (b := decide (s < ns.length)) (et_is (et_test (ev_op (ev_var rfl) (ev_len (ev_var rfl) ha) rv_I0)) (by rw [List.length_map]; exact decide_eq_decide.mpr (by omega))) (fun hb => ?_) (fun hb => ?_)) fun H1 e1 => ?_
  · have hlt := of_decide_eq_true hb
    rw [if_pos hlt]
    refine ev_int1 (ev_op (ev_var rfl) (ev_var rfl) (rv_ixL ha (atI_nat ?_)))
    rw [List.getElem?_map, List.getElem?_eq_getElem hlt, List.getD_eq_getElem?_getD, List.getElem?_eq_getElem hlt]
    rfl
  · rw [if_neg (of_decide_eq_false hb)]
    exact ev_op (ev_op ev_c (ev_var rfl) (rv_I (.inl (by decide)))) ev_c rv_I0
  generalize (if s < ns.length then ns.getD s 0 else 59 * (s : Int) + 13) = cell at *
  refine q_asg (ev_op (ev_abs (ev_var rfl)) (ev_op ev_c ev_c (rv_I ⟨by decide, by decide, by decide⟩)) (rv_I (by decide))) fun H2 e2 => ?_
  refine q_asg (ev_max2 ev_c (ev_op (ev_abs (ev_var rfl)) (ev_op ev_c ev_c (rv_I ⟨by decide, by decide, by decide⟩)) rv_I0)) fun H3 e3 => ?_
  have w60 : CMulW (10 ^ (60 : Int).toNat) (10 ^ (60 : Int).toNat) := wide_mul (a := 200) (b := 200) (by decide) (by decide) (by decide) (by decide) (by decide)
  refine s_retL (el_lst (ea_cons (ev_op (ev_var rfl) (ev_op (ev_op ev_c ev_c (rv_I ⟨by decide, by decide, by decide⟩)) (ev_op ev_c ev_c (rv_I ⟨by decide, by decide, by decide⟩)) (rv_I w60)) (rv_I (by decide)))
    (ea_cons (ev_op (ev_op (ev_op (ev_op (ev_op (ev_var rfl) ev_c (rv_I (by decide))) ev_c (rv_I (.inr (by decide)))) (ev_op ev_c (ev_var rfl) (rv_I (.inl (by decide)))) rv_I0) (ev_op ev_c (ev_intB (ev_op (ev_var rfl) ev_c rv_I0)) (rv_I (.inl (by decide)))) rv_I0) ev_c rv_I0) (ea_cons ev_c ea_nil))) (Nat.le_of_ble_eq_true rfl)) fun p H4 hp e4 hx => ?_
  exact k p H4 _ _ _ (fresh_back ((e1.trans e2).trans e3) hp) (((e1.trans e2).trans e3).trans e4) hx (Int.emod_nonneg _ (by decide))
theorem sc__law_dice : FnScope ["_law_script", "_law_spot", "_law_cell", "_law_great", "_law_left"] ["_law_script", "_law_spot"] (defScope s__law_dice) := ⟨rfl, rfl, rfl, by decide +kernel, rfl, by decide +kernel, by decide +kernel⟩
theorem d__law_dice {P : Program} {w : World} {K : PySem.W.Frag} {mg : Str → Option Value} {base : Heap} (T : Txt K mg) {f : Addr} {cdv : Value} {A : Around} {outer : List Env} {s : Shared} {H : Hp} {E : XK} (hr : Room 0 (A.deeper (envOfC "_law_dice" (defScope s__law_dice) s.heap.objs.size f cdv))) :
    PSs (cxOf CX0 P w K mg base ["_law_script", "_law_spot", "_law_cell", "_law_great", "_law_left"] "_law_dice" (defScope s__law_dice) f cdv A outer s H E).nox (defBody s__law_dice) (t__law_dice K) := by
  have hu := hu_of hr
  exact (pss_cons (ps_asg (pe_ifExp (pt_cmpR op_lt (pv 1) (pe_callB call_len_seq (by rfl) T.b_len (by decide +kernel) (pa_cons (pv 0) pa_nil)) (nomark _)) (pe_callTy call_int1 (by rfl) T.b_int (by decide +kernel) (pa_cons (pe_ix ix_list (pv 0) (pv 1) (fun _ _ => rfl)) pa_nil)) (pe_op op_add (pe_op op_mul pe_int (pv 1)) pe_int)) (pg_name (i := 2) sc__law_dice.nd rfl (Or.inl rfl)))
      (pss_cons (ps_asg (pe_op op_mod (pe_callB call_abs (by rfl) T.b_abs (by decide +kernel) (pa_cons (pv 2) pa_nil)) (pe_op op_pow pe_int pe_int)) (pg_name (i := 3) sc__law_dice.nd rfl (Or.inl rfl)))
      (pss_cons (ps_asg (pe_callB (call_max2 rfl) (by rfl) T.b_max (by decide +kernel) (pa_cons pe_int (pa_cons (pe_op op_sub (pe_callB call_abs (by rfl) T.b_abs (by decide +kernel) (pa_cons (pv 2) pa_nil)) (pe_op op_pow pe_int pe_int)) pa_nil))) (pg_name (i := 4) sc__law_dice.nd rfl (Or.inl rfl)))
      (pss_one (ps_ret (pe_lst (pa_cons (pe_op op_mod (pv 4) (pe_op op_mulW (pe_op op_pow pe_int pe_int) (pe_op op_pow pe_int pe_int))) (pa_cons (pe_op op_add (pe_op op_add (pe_op op_add (pe_op op_mul (pe_op op_mod (pv 3) pe_int) pe_int) (pe_op op_mul pe_int (pv 1))) (pe_op op_mul pe_int (pe_callTy call_int1 (by rfl) T.b_int (by decide +kernel) (pa_cons (pe_cmpR op_lt (pv 2) pe_int (nomark _)) pa_nil)))) pe_int) (pa_cons pe_int pa_nil)))))))))
theorem ok__law_dice {P : Program} {w : World} {K : PySem.W.Frag} {mg : Str → Option Value} {base : Heap} (T : Txt K mg) : FnOk P w K mg base CX0 1 T.l_dice.f T.l_dice.fd ["_law_script", "_law_spot"] (sp__law_dice K) :=
  ok0 T.l_dice.F sc__law_dice len__law_dice fun cdv A outer s H vs Q E hr h => ⟨t__law_dice K, d__law_dice T hr, pure__law_dice h⟩
theorem cl__law_dice {P : Program} {w : World} {K : PySem.W.Frag} {mg : Str → Option Value} {base : Heap} (T : Txt K mg) : Cl P w K mg base 1 "_law_dice" (sp__law_dice K) := cl_of T.l_dice (ok__law_dice T) fun _ _ _ _ _ _ us hl => match us, hl with | [_, _], _ => rfl

end K08

namespace K08
open PySem PySem.Spec PyProof.Rows L2 Evl
/-! ### _law_mixed -/
def t__law_mixed (K : PySem.W.Frag) : TS :=
  (tSeq (tPar 2 3 (tCons (tCB (rListS K) (tCons (tVar 1) tNil)) (tCons (tLst tNil) tNil)))
    (tSeq (tFor (iRng1 (tCons (tCB (rLenS K) (tCons (tVar 1) tNil)) tNil)) (gName 4)
    (tDrop (tBM K "list" rAppend (tVar 3) (tCons (tBM K "list" rPopAt (tVar 2) (tCons (tClD sp__law_roll (tCons (tVar 0) (tCons (tCB (rLenS K) (tCons (tVar 2) tNil)) tNil))) tNil)) tNil))))
    (tRet (tVar 3))))
def sp__law_mixed (K : PySem.W.Frag) : Sp := fun vs H Q _ => ∃ (d a : Addr) (xs : List V), vs = [.ref d, .ref a] ∧ H d = some (DiceO d) ∧ SqL K H a xs ∧ xs.length ≤ 900 ∧ ∀ p H' ys, H p = none → Ex H H' → H' p = some (.lst ys) → ys.Perm xs → Q (.ref p) H'
theorem len__law_mixed {K : PySem.W.Frag} : ∀ vs H Q E, sp__law_mixed K vs H Q E → vs.length = 2 := fun vs H Q E ⟨_, _, _, e, _⟩ => by rw [e]; rfl
theorem q_parLL {σ : L2.St} {H : Hp} {i j : Nat} {ta tb : TE} {xs ys : List V} {D : Ends} {tz : TS} (ha : EvL ta σ H xs) (hb : EvL tb σ H ys) (k : ∀ p q H1, H p = none → H q = none → q ≠ p → Ex H H1 → H1 p = some (.lst xs) → H1 q = some (.lst ys) → tz D ((σ.set i (some (.ref p))).set j (some (.ref q))) H1) : tSeq (tPar i j (tCons ta (tCons tb tNil))) tz D σ H :=
  ha H (Ex.refl H) _ fun p H1 hp e1 h1 => hb H1 e1 _ fun q H2 hq e2 h2 => ⟨.ref p, .ref q, rfl, k p q H2 hp (fresh_back e1 hq) (fun z => by subst z; rw [h1] at hq; cases hq) (e1.trans e2) (e2 _ _ h1) h2⟩
theorem perm_erase {α : Type} {l : List α} {k : Nat} {y : α} (h : l[k]? = some y) : (y :: l.eraseIdx k).Perm l := by
  obtain ⟨hk, rfl⟩ := List.getElem?_eq_some_iff.mp h
  have h1 : l = l.take k ++ l[k] :: l.drop (k + 1) := by rw [List.getElem_cons_drop, List.take_append_drop]
  rw [List.eraseIdx_eq_take_drop_succ]
  conv => rhs; rw [h1]
  exact List.perm_middle.symm
theorem pure__law_mixed {K : PySem.W.Frag} {vs : List V} {H : Hp} {Q : VK} {E : XK} (h : sp__law_mixed K vs H Q E) : t__law_mixed K { nx := fun _ H' => Q .non H', rt := Q } (start ["_law_dice_here", "_law_items", "_law_left", "_law_found", "_law_turn"] vs) H := by
  obtain ⟨d, a, xs, rfl, hd, ha, hz, k⟩ := h
  refine q_parLL (el_list (ev_var rfl) ha) (el_lst ea_nil (by decide)) fun l f H1 hl hf hne e1 hl1 hf1 => ?_
  refine q_forR1 (n := (xs.length : Int)) (ea_cons (ev_len (ev_var rfl) (ex_l e1 ha)) ea_nil) (by omega) (fun i σ' H' => ∃ (x : Option V) (ls fs : List V), σ' = [some (.ref d), some (.ref a), some (.ref l), some (.ref f), x] ∧ Ex H H' ∧ H' l = some (.lst ls) ∧ H' f = some (.lst fs) ∧ (fs ++ ls).Perm xs ∧ fs.length = i)
    (fun H2 e2 => ⟨none, xs, [], rfl, e1.trans e2, e2 _ _ hl1, e2 _ _ hf1, List.Perm.refl _, rfl⟩) (fun i σ' H' hi p => ?_) (fun σ' H' p => ?_)
  · obtain ⟨x, ls, fs, rfl, e2, h2, h3, h4, h5⟩ := p
    have hlen : fs.length + ls.length = xs.length := by have := h4.length_eq; rwa [List.length_append] at this
    have hlt : 1 ≤ ls.length := by omega
    refine ⟨.ref f, rfl, .inl ⟨rfl, fs, SqL.of h3⟩, ⟨.ref l, rfl, .inl ⟨rfl, ls, SqL.of h2⟩, ?_⟩⟩
    refine eq_roll (p := d) (n := (ls.length : Int)) (ev_var rfl) (ev_len (ev_var rfl) (SqL.of h2)) (e2 _ _ hd) (by omega) (by omega) H' (Ex.refl H') _ fun v H3 e3 hv => ?_
    obtain ⟨r, rfl, r0, r1⟩ := hv
    have hr : r.toNat < ls.length := by omega
    have hl3 := e3 _ _ h2
    refine ⟨l, ls, r, r.toNat, ls[r.toNat], rfl, rfl, hl3, by omega, by omega, seqIndex_of r0 r1, List.getElem?_eq_getElem hr, ?_⟩
    have hlf : f ≠ l := hne
    refine ⟨f, fs, ls[r.toNat], rfl, rfl, by rw [upd_ne hlf]; exact e3 _ _ h3, sz_lt (by omega), ?_⟩
    refine ⟨_, ls.eraseIdx r.toNat, fs ++ [ls[r.toNat]], rfl, ((e2.trans e3).mut hl).mut hf, by rw [upd_ne (Ne.symm hlf), upd_same], upd_same, ?_, by rw [List.length_append, h5]; rfl⟩
    rw [List.append_assoc]
    exact (List.Perm.append_left fs (perm_erase (List.getElem?_eq_getElem hr))).trans h4
  · obtain ⟨x, ls, fs, rfl, e2, h2, h3, h4, h5⟩ := p
    have hlen : fs.length + ls.length = xs.length := by have := h4.length_eq; rwa [List.length_append] at this
    have hls : ls = [] := List.eq_nil_of_length_eq_zero (by simp at h5; omega)
    subst hls
    rw [List.append_nil] at h4
    exact s_ret (ev_var rfl) fun H3 e3 => k f H3 fs hf (e2.trans e3) (e3 _ _ h3) h4
theorem sc__law_mixed : FnScope ["_law_dice_here", "_law_items", "_law_left", "_law_found", "_law_turn"] ["_law_dice_here", "_law_items"] (defScope s__law_mixed) := ⟨rfl, rfl, rfl, by decide +kernel, rfl, by decide +kernel, by decide +kernel⟩
theorem d__law_mixed {P : Program} {w : World} {K : PySem.W.Frag} {mg : Str → Option Value} {base : Heap} (T : Txt K mg) {f : Addr} {cdv : Value} {A : Around} {outer : List Env} {s : Shared} {H : Hp} {E : XK} (hr : Room 1 (A.deeper (envOfC "_law_mixed" (defScope s__law_mixed) s.heap.objs.size f cdv))) :
    PSs (cxOf CX0 P w K mg base ["_law_dice_here", "_law_items", "_law_left", "_law_found", "_law_turn"] "_law_mixed" (defScope s__law_mixed) f cdv A outer s H E).nox (defBody s__law_mixed) (t__law_mixed K) := by
  have hu := hu_of hr
  exact (pss_cons (ps_par (i := 2) (j := 3) (by rfl) sc__law_mixed.nd rfl rfl (by decide) rfl rfl (pa_cons (pe_callTy call_list_of (by rfl) T.b_list (by decide +kernel) (pa_cons (pv 1) pa_nil)) (pa_cons (pe_lst pa_nil) pa_nil)) (by rfl))
      (pss_cons (ps_for PassesOwn.never rfl (pi_range1 rfl T.b_range (pa_cons (pe_callB call_len_seq (by rfl) T.b_len (by decide +kernel) (pa_cons (pv 1) pa_nil)) pa_nil)) (pg_name (i := 4) sc__law_mixed.nd rfl (Or.inl rfl))
      (pss_one (ps_expr (pe_bm PySem.F.plainAttrs_list PySem.F.slot_list_append PySem.F.type_list_append mt_append (pv 3) (pa_cons (pe_bm PySem.F.plainAttrs_list PySem.F.slot_list_pop PySem.F.type_list_pop mt_popAt (pv 2) (pa_cons (pe_clD (cl__law_roll T) hr (pa_cons (pv 0) (pa_cons (pe_callB call_len_seq (by rfl) T.b_len (by decide +kernel) (pa_cons (pv 2) pa_nil)) pa_nil))) pa_nil)) pa_nil)))))
      (pss_one (ps_ret (pv 3)))))
theorem ok__law_mixed {P : Program} {w : World} {K : PySem.W.Frag} {mg : Str → Option Value} {base : Heap} (T : Txt K mg) : FnOk P w K mg base CX0 2 T.l_mixed.f T.l_mixed.fd ["_law_dice_here", "_law_items"] (sp__law_mixed K) :=
  ok0 T.l_mixed.F sc__law_mixed len__law_mixed fun cdv A outer s H vs Q E hr h => ⟨t__law_mixed K, d__law_mixed T hr, pure__law_mixed h⟩
theorem cl__law_mixed {P : Program} {w : World} {K : PySem.W.Frag} {mg : Str → Option Value} {base : Heap} (T : Txt K mg) : Cl P w K mg base 2 "_law_mixed" (sp__law_mixed K) := cl_of T.l_mixed (ok__law_mixed T) fun _ _ _ _ _ _ us hl => match us, hl with | [_, _], _ => rfl

end K08

namespace K08
open PySem PySem.Spec PyProof.Rows L2 Evl
/-! ### _law_pick -/
abbrev rLenX (K : PySem.W.Frag) : List V → Hp → VK → Prop := fun xs H Q => (∃ p ys, xs = [.ref p] ∧ (SqL K H p ys ∨ SqT K H p ys) ∧ Q (.int ys.length) H) ∨ (∃ z, xs = [.str z] ∧ z.length ≤ sizeLine ∧ Q (.int z.length) H)
theorem callR_or {X : Cx} {u : Value} {r r' : List V → Hp → VK → Prop} (h : CallR X u r) (h' : CallR X u r') : CallR X u (fun xs H Q => r xs H Q ∨ r' xs H Q) := by
  intro pins s σ H xs us Q I rv hq
  rcases hq with hq | hq
  · exact h pins s σ H xs us Q I rv hq
  · exact h' pins s σ H xs us Q I rv hq
def t__law_pick (K : PySem.W.Frag) : TS :=
  (tRet (tOp (rIx K) (tVar 1) (tClD sp__law_roll (tCons (tVar 0) (tCons (tCB (rLenX K) (tCons (tVar 1) tNil)) tNil)))))
/-- what may be picked from -/
def Items (K : PySem.W.Frag) (H : Hp) (v : V) (xs : List V) : Prop := (∃ a, v = .ref a ∧ SqL K H a xs) ∨ (∃ z : Str, v = .str z ∧ xs = sgn z)
def sp__law_pick (K : PySem.W.Frag) : Sp := fun vs H Q _ => ∃ (d : Addr) (v : V) (xs : List V), vs = [.ref d, v] ∧ H d = some (DiceO d) ∧ Items K H v xs ∧ 1 ≤ xs.length ∧ xs.length ≤ 900 ∧ ∀ H' x, Ex H H' → x ∈ xs → Q x H'
theorem len__law_pick {K : PySem.W.Frag} : ∀ vs H Q E, sp__law_pick K vs H Q E → vs.length = 2 := fun vs H Q E ⟨_, _, _, e, _⟩ => by rw [e]; rfl
theorem pure__law_pick {K : PySem.W.Frag} {vs : List V} {H : Hp} {Q : VK} {E : XK} (h : sp__law_pick K vs H Q E) : t__law_pick K { nx := fun _ H' => Q .non H', rt := Q } (start ["_law_dice_here", "_law_items"] vs) H := by
  obtain ⟨d, v, xs, rfl, hd, hi, h1, h2, k⟩ := h
  have hl : Ev (tCB (rLenX K) (tCons (tVar 1) tNil)) (start ["_law_dice_here", "_law_items"] [.ref d, v]) H (.int (xs.length : Int)) := fun H1 e Q1 q1 => ⟨v, rfl, by
    rcases hi with ⟨a, rfl, ha⟩ | ⟨z, rfl, rfl⟩
    · exact .inl ⟨a, xs, rfl, .inl (ex_l e ha), q1 H1 (Ex.refl H1)⟩
    · have hz : (sgn z).length = z.length := by unfold sgn; rw [List.length_map, ← len_eq]
      exact .inr ⟨z, rfl, sz_of (by omega), by rw [← hz]; exact q1 H1 (Ex.refl H1)⟩⟩
  refine ⟨v, rfl, eq_roll (ev_var rfl) hl hd (by omega) (by omega) H (Ex.refl H) _ fun w H1 e1 hw => ?_⟩
  obtain ⟨r, rfl, r0, r1⟩ := hw
  have hr : r.toNat < xs.length := by omega
  have hat : atI xs r = some xs[r.toNat] := by
    have := atI_nat (xs := xs) (i := r.toNat) (List.getElem?_eq_getElem hr)
    rwa [Int.toNat_of_nonneg r0] at this
  have hm := List.getElem_mem hr
  rcases hi with ⟨a, rfl, ha⟩ | ⟨z, rfl, rfl⟩
  · exact .inl ⟨a, xs, r, _, rfl, rfl, ex_l e1 ha, hat, k H1 _ e1 hm⟩
  · have hz : (sgn z).length = z.length := by unfold sgn; rw [List.length_map, ← len_eq]
    have hlt : r.toNat < z.cps.toList.length := by rw [← len_eq]; omega
    have hatc : atI z.cps.toList r = some z.cps.toList[r.toNat] := by
      have h3 : ixN z.cps.toList.length r = some r.toNat := by
        have := ixN_nat hlt
        rwa [Int.toNat_of_nonneg r0] at this
      unfold atI
      rw [h3]
      exact List.getElem?_eq_getElem hlt
    refine .inr (.inr ⟨z, r, _, rfl, rfl, sz_of (by omega), hatc, k H1 _ e1 ?_⟩)
    exact List.mem_map.mpr ⟨_, List.getElem_mem hlt, rfl⟩
theorem sc__law_pick : FnScope ["_law_dice_here", "_law_items"] ["_law_dice_here", "_law_items"] (defScope s__law_pick) := ⟨rfl, rfl, rfl, by decide +kernel, rfl, by decide +kernel, by decide +kernel⟩
theorem d__law_pick {P : Program} {w : World} {K : PySem.W.Frag} {mg : Str → Option Value} {base : Heap} (T : Txt K mg) {f : Addr} {cdv : Value} {A : Around} {outer : List Env} {s : Shared} {H : Hp} {E : XK} (hr : Room 1 (A.deeper (envOfC "_law_pick" (defScope s__law_pick) s.heap.objs.size f cdv))) :
    PSs (cxOf CX0 P w K mg base ["_law_dice_here", "_law_items"] "_law_pick" (defScope s__law_pick) f cdv A outer s H E).nox (defBody s__law_pick) (t__law_pick K) := by
  have hu := hu_of hr
  exact (pss_one (ps_ret (pe_ix ix_seq (pv 1) (pe_clD (cl__law_roll T) hr (pa_cons (pv 0) (pa_cons (pe_callB (callR_or call_len_seq call_len_str) (by rfl) T.b_len (by decide +kernel) (pa_cons (pv 1) pa_nil)) pa_nil))) (fun _ _ => rfl))))
theorem ok__law_pick {P : Program} {w : World} {K : PySem.W.Frag} {mg : Str → Option Value} {base : Heap} (T : Txt K mg) : FnOk P w K mg base CX0 2 T.l_pick.f T.l_pick.fd ["_law_dice_here", "_law_items"] (sp__law_pick K) :=
  ok0 T.l_pick.F sc__law_pick len__law_pick fun cdv A outer s H vs Q E hr h => ⟨t__law_pick K, d__law_pick T hr, pure__law_pick h⟩
theorem cl__law_pick {P : Program} {w : World} {K : PySem.W.Frag} {mg : Str → Option Value} {base : Heap} (T : Txt K mg) : Cl P w K mg base 2 "_law_pick" (sp__law_pick K) := cl_of T.l_pick (ok__law_pick T) fun _ _ _ _ _ _ us hl => match us, hl with | [_, _], _ => rfl

end K08

namespace K08
open PySem PySem.Spec PyProof.Rows L2 Evl
/-! ### comprehensions whose items are new objects; plain questions of the law -/
def EvLQ (te : TE) (σ : L2.St) (H : Hp) (P : List V → Hp → Prop) : Prop := ∀ H1, Ex H H1 → ∀ Q : VK, (∀ p ys H2, H1 p = none → Ex H1 H2 → H2 p = some (.lst ys) → P ys H2 → Q (.ref p) H2) → te σ H1 Q
section
variable {K : PySem.W.Frag} {σ : L2.St} {H : Hp} {wi : TI} {te tk : TE} {xs : List V} {α : Type}
theorem el_lcQ {j : Nat} {vs : List Nat} (R : V → V → Hp → Prop) (hR : ∀ x y H H', Ex H H' → R x y H → R x y H') (hU : ∀ x y H D zs u, H D = some (.lst zs) → R x y H → R x y (upd H D u)) (h : Src wi σ H xs) (hz : xs.length ≤ 40000) (hw : ∀ x, wipe ((wipe σ vs).set j (some x)) vs = wipe σ vs)
    (he : ∀ (x : V) H1, Ex H H1 → x ∈ xs → EvQ te ((wipe σ vs).set j (some x)) H1 (R x)) : EvLQ (tLc wi (gName j) tYes te vs) σ H (fun ys H' => Paired (fun x y => R x y H') xs ys) := fun H0 e Q q =>
  h H0 e _ fun J H1 e1 w Dl hD => lc_it w (fun i H' => Ex H1 H' ∧ ∃ ys, H' Dl = some (.lst ys) ∧ Paired (fun x y => R x y H') (xs.take i) ys) ⟨Ex.new hD, [], upd_same, .nil⟩ (fun i H' _ p => p.1)
    (fun i x H' H'' hi p y => by
      obtain ⟨e2, hx⟩ := y
      subst e2
      obtain ⟨p1, ys, p2, p3⟩ := p
      refine ⟨hw x, et_yes H'' (Ex.refl H'') _ fun H3 e3 => ?_⟩
      rw [if_pos rfl]
      refine he x H3 ((e.trans e1).trans (p1.trans e3)) (List.mem_of_getElem? hx) H3 (Ex.refl H3) _ fun v H4 e4 hv => ?_
      have e34 := e3.trans e4
      have hD4 := e34 _ _ p2
      have hlen : ys.length = (xs.take i).length := (Paired.length p3).symm
      refine ⟨ys, hD4, sz_lt (by rw [hlen, List.length_take]; omega), (p1.trans e34).mut hD, ys ++ [v], upd_same, ?_⟩
      rw [List.take_succ, hx]
      exact Paired.snoc (L2.Paired.mapP p3 fun a b r => hU _ _ _ _ _ _ hD4 (hR _ _ _ _ e34 r)) (hU _ _ _ _ _ _ hD4 hv))
    (fun H' p => by
      obtain ⟨p1, ys, p2, p3⟩ := p
      rw [List.take_length] at p3
      exact q Dl ys H' (fresh_back e1 hD) (e1.trans p1) p2 p3)
theorem elq_lock {d : Addr} {u : HO} {P : List V → Hp → Prop} (h : H d = some u) (m : Mut (some u)) (hP : ∀ ys H' u', H' d = some u' → (∃ od, u' = .frz od u) → P ys H' → P ys (upd H' d u)) (k : ∀ od, EvLQ te σ (upd H d (.frz od u)) P) : EvLQ (tLockE te) σ H P := fun H1 e Q q =>
  ⟨d, u, e _ _ h, m, fun od => k od _ (ex_lock e h) _ fun p ys H2 hp e2 hx hpy => by
    obtain ⟨h1, h2⟩ := ex_unlock (e _ _ h) e2
    have hne : p ≠ d := fun z => by subst z; rw [upd_same] at hp; cases hp
    refine ⟨h1, q p ys _ (by rw [upd_ne hne] at hp; exact hp) h2 ?_ (hP _ _ _ h1 ⟨od, rfl⟩ hpy)⟩
    rw [upd_ne hne]
    exact hx⟩
theorem mergeK_new (l : List (Str × V)) (hn : (l.map (·.1)).Nodup) : mergeK [] (kS l) = kS l := by
  have : ∀ (b a : List (Str × V)), ((a ++ b).map (·.1)).Nodup → mergeK (kS a) (kS b) = kS (a ++ b) := by
    intro b
    induction b with
    | nil => intro a _; rw [List.append_nil]; rfl
    | cons x r ih =>
      intro a ha
      have hx : a.lookup x.1 = none := lookup_no.mpr fun hm => by
        rw [List.map_append, List.map_cons] at ha
        exact (List.nodup_append.mp ha).2.2 _ hm _ List.mem_cons_self rfl
      have e : (a ++ [x]) ++ r = a ++ x :: r := by simp
      have := ih (a ++ [x]) (by rw [e]; exact ha)
      rw [e] at this
      rw [← this]
      show mergeK (putK (kS a) (Sum.inr x.1) x.2) (kS r) = _
      rw [putK_kS x.2 hx]
  exact this l [] (by simpa using hn)
/-- a new dict, what it holds told by its values -/
def EvDQ (te : TE) (σ : L2.St) (H : Hp) (P : List (Str × V) → Hp → Prop) : Prop := ∀ H1, Ex H H1 → ∀ Q : VK, (∀ p l H2, H1 p = none → Ex H1 H2 → H2 p = some (.dK (kS l)) → P l H2 → Q (.ref p) H2) → te σ H1 Q
/-- dict(a list of pairs), the keys texts that differ -/
theorem ed_dictP {m : List (Str × α)} {R : Hp → V → α → Prop} (hR : ∀ H H' v a, Ex H H' → R H v a → R H' v a) (h : EvLQ te σ H (fun ys H' => Paired (fun (x : Str × α) y => ∃ t v, y = .ref t ∧ H' t = some (.tup [.str x.1, v]) ∧ R H' v x.2) m ys)) (hn : (m.map (·.1)).Nodup) : EvDQ (tCB (rDictP K) (tCons te tNil)) σ H (fun l H' => RelR R H' l m) := fun H1 e Q q => h H1 e _ fun p ys H2 hp e2 hx hpy => by
  have h1 : ∃ (as : List Addr) (l : List (Str × V)), ys = as.map V.ref ∧ Paired (fun p kv => SqT K H2 p [kV kv.1, kv.2]) as (kS l) ∧ RelR R H2 l m := by
    clear hx hn q h
    induction hpy with
    | nil => exact ⟨[], [], rfl, .nil, .nil⟩
    | @cons a b r s hab _ ih =>
      obtain ⟨t, v, rfl, ht, hv⟩ := hab
      obtain ⟨as, l, rfl, h, hr⟩ := ih
      exact ⟨t :: as, (a.1, v) :: l, rfl, .cons (SqT.of ht) h, .cons ⟨rfl, hv⟩ hr⟩
  obtain ⟨as, l, rfl, hp2, hr⟩ := h1
  refine ⟨p, as, kS l, rfl, SqL.of hx, hp2, fun d hd => ?_⟩
  rw [mergeK_new l (by rw [hr.keys]; exact hn)]
  have e3 := Ex.new (H := H2) (o := .dK (kS l)) hd
  exact q d l _ (fresh_back e2 hd) (e2.trans e3) upd_same (hr.mono fun v a => hR _ _ v a e3)
end
def lstR (H : Hp) (v : V) (c : List Str) : Prop := ∃ t, v = .ref t ∧ H t = some (.lst (c.map V.str))
def pairR (H : Hp) (v : V) (z : Int × Int) : Prop := ∃ t, v = .ref t ∧ H t = some (.tup [.int z.1, .int z.2])
theorem lstR_ex {H H' : Hp} (e : Ex H H') (v : V) (c : List Str) (h : lstR H v c) : lstR H' v c := let ⟨t, h1, h2⟩ := h; ⟨t, h1, e _ _ h2⟩
theorem pairR_ex {H H' : Hp} (e : Ex H H') (v : V) (c : Int × Int) (h : pairR H v c) : pairR H' v c := let ⟨t, h1, h2⟩ := h; ⟨t, h1, e _ _ h2⟩
/-- a plain question of the law -/
structure P0 where
  tb : Tabs0
  gr : List Str
  sz : Sizs0
def PlA (H : Hp) (d : Addr) (p : P0) : Prop := ∃ (t g z : Addr) (l l2 : List (Str × V)), H d = some (.dK (kS [("tables", .ref t), ("groups", .ref g), ("sizes", .ref z)])) ∧ H t = some (.dK (kS l)) ∧ RelR lstR H l p.tb ∧ H g = some (.lst (p.gr.map V.str)) ∧ H z = some (.dK (kS l2)) ∧ RelR pairR H l2 p.sz
theorem PlA.ex {H H' : Hp} {d : Addr} {p : P0} (e : Ex H H') (h : PlA H d p) : PlA H' d p := by
  obtain ⟨t, g, z, l, l2, h1, h2, h3, h4, h5, h6⟩ := h
  exact ⟨t, g, z, l, l2, e _ _ h1, e _ _ h2, h3.mono (lstR_ex e), e _ _ h4, e _ _ h5, h6.mono (pairR_ex e)⟩
theorem eq_tup2 {σ : L2.St} {H : Hp} {ta tv : TE} {x : V} {R : V → Hp → Prop} (ha : Ev ta σ H x) (hv : EvQ tv σ H R) : EvQ (tTup (tCons ta (tCons tv tNil))) σ H (fun y H' => ∃ t v H0, y = .ref t ∧ H' t = some (.tup [x, v]) ∧ Ex H0 H' ∧ R v H0) := fun H1 e Q q =>
  ha H1 e _ fun H2 e2 => hv H2 (e.trans e2) _ fun v H3 e3 hv3 => ⟨by rw [sizeLine_eq]; exact (by decide : 2 ≤ 16777216), fun p hp => q (.ref p) _ ((e2.trans e3).trans (Ex.new hp)) ⟨p, v, H3, rfl, upd_same, Ex.new hp, hv3⟩⟩
/-- [(n, ..) for n in names] -/
theorem el_pairs {α : Type} {R : Hp → V → α → Prop} {σ : L2.St} {H : Hp} {wi : TI} {tv : TE} {j : Nat} {vs : List Nat} {names : List Str} (hR : ∀ H H' v a, Ex H H' → R H v a → R H' v a) (hU : ∀ v a H D zs u, H D = some (.lst zs) → R H v a → R (upd H D u) v a) (g : Str → α) (h : Src wi σ H (names.map V.str)) (hz : names.length ≤ 40000) (hw : ∀ x, wipe ((wipe σ vs).set j (some x)) vs = wipe σ vs) (hs : ∀ x, ((wipe σ vs).set j (some x))[j]? = some (some x))
    (hv : ∀ n H1, Ex H H1 → n ∈ names → EvQ tv ((wipe σ vs).set j (some (.str n))) H1 (fun v H' => R H' v (g n))) :
    EvLQ (tLc wi (gName j) tYes (tTup (tCons (tVar j) (tCons tv tNil))) vs) σ H (fun ys H' => Paired (fun (x : Str × α) y => ∃ t v, y = .ref t ∧ H' t = some (.tup [.str x.1, v]) ∧ R H' v x.2) (names.map fun n => (n, g n)) ys) := by
  have hl := el_lcQ (te := tTup (tCons (tVar j) (tCons tv tNil))) (fun x y H' => ∃ n t v, x = V.str n ∧ y = V.ref t ∧ H' t = some (.tup [.str n, v]) ∧ R H' v (g n)) (fun x y H H' e ⟨n, t, v, h1, h2, h3, h4⟩ => ⟨n, t, v, h1, h2, e _ _ h3, hR _ _ _ _ e h4⟩)
    (fun x y H D zs u hD ⟨n, t, v, h1, h2, h3, h4⟩ => ⟨n, t, v, h1, h2, by rw [upd_ne (fun z => by subst z; rw [h3] at hD; cases hD)]; exact h3, hU _ _ _ _ _ _ hD h4⟩) h (by rw [List.length_map]; exact hz) hw (fun x H3 e3 hx H4 e4 Q' q' => by
      obtain ⟨n, hn, rfl⟩ := List.mem_map.mp hx
      refine eq_tup2 (ev_var (hs _)) (hv n H3 e3 hn) H4 e4 _ fun y H7 e7 hy => ?_
      obtain ⟨t, v, H0, rfl, h1, h2, h3⟩ := hy
      exact q' _ _ e7 ⟨n, t, v, rfl, rfl, h1, hR _ _ _ _ h2 h3⟩)
  intro H1 e1 Q q
  refine hl H1 e1 Q fun p ys H2 hp e2 hx hpy => q p ys H2 hp e2 hx ?_
  clear hx q hl h hz hv
  have : ∀ (ns : List Str) (ys : List V), Paired (fun x y => ∃ n t v, x = V.str n ∧ y = V.ref t ∧ H2 t = some (.tup [.str n, v]) ∧ R H2 v (g n)) (ns.map V.str) ys → Paired (fun (x : Str × α) y => ∃ t v, y = .ref t ∧ H2 t = some (.tup [.str x.1, v]) ∧ R H2 v x.2) (ns.map fun n => (n, g n)) ys := by
    intro ns
    induction ns with
    | nil => intro ys h; cases h; exact .nil
    | cons n r ih =>
      intro ys h
      cases h with
      | cons h1 h2 =>
        obtain ⟨m, t, v, e1, e2, e3, e4⟩ := h1
        cases e1
        exact .cons ⟨t, v, e2, e3, e4⟩ (ih _ h2)
  exact this names ys hpy
theorem pairR_upd {H : Hp} {v : V} {a : Int × Int} {D : Addr} {o u : HO} (hD : H D = some o) (ho : ∀ xs, o ≠ .tup xs) (h : pairR H v a) : pairR (upd H D u) v a := by
  obtain ⟨t, h1, h2⟩ := h
  exact ⟨t, h1, by rw [upd_ne (fun z => by subst z; rw [h2] at hD; exact ho _ (Option.some.inj hD).symm)]; exact h2⟩
theorem eq_one1 {σ : L2.St} {H : Hp} : EvQ (tTup (tCons (tC (.int 1)) (tCons (tC (.int 1)) tNil))) σ H (fun v H' => pairR H' v (1, 1)) := fun H1 e Q q =>
  (eu_tup (ea_cons ev_c (ea_cons ev_c ea_nil)) (by decide)) H1 e _ fun p H2 hp e2 hx => q _ _ e2 ⟨p, rfl, hx⟩

end K08

namespace K08
open PySem PySem.Spec PyProof.Rows L2 Evl
/-! ### _law_plain -/
def t__law_plain (K : PySem.W.Frag) : TS :=
  (tRet (tDisp [((tC (.str "tables")), (tVar 0)), ((tC (.str "groups")), (tVar 1)), ((tC (.str "sizes")), (tCB (rDictP K) (tCons (tLockE (tLc (iKeys (tVar 0)) (gName 2) tYes (tTup (tCons (tVar 2) (tCons (tTup (tCons (tC (.int 1)) (tCons (tC (.int 1)) tNil))) tNil))) [2])) tNil)))]))
/-- every size is 1 -/
def ones (tb : Tabs0) : Sizs0 := tb.map fun e => (e.1, (1, 1))
def sp__law_plain : Sp := fun vs H Q _ => ∃ (t g : Addr) (l : List (Str × V)) (tb : Tabs0) (gr : List Str), vs = [.ref t, .ref g] ∧ H t = some (.dK (kS l)) ∧ RelR lstR H l tb ∧ (tb.map (·.1)).Nodup ∧ tb.length ≤ 1000 ∧ H g = some (.lst (gr.map V.str)) ∧ ∀ d z l2 H', H d = none → H z = none → d ≠ z → Ex H H' → H' d = some (.dK (kS [("tables", .ref t), ("groups", .ref g), ("sizes", .ref z)])) → H' z = some (.dK (kS l2)) → RelR pairR H' l2 (ones tb) → Q (.ref d) H'
theorem len__law_plain : ∀ vs H Q E, sp__law_plain vs H Q E → vs.length = 2 := fun vs H Q E ⟨_, _, _, _, _, e, _⟩ => by rw [e]; rfl
theorem pure__law_plain {K : PySem.W.Frag} {vs : List V} {H : Hp} {Q : VK} {E : XK} (h : sp__law_plain vs H Q E) : t__law_plain K { nx := fun _ H' => Q .non H', rt := Q } (start ["_law_tables", "_law_groups", "_law_name"] vs) H := by
  obtain ⟨t, g, l, tb, gr, rfl, ht, hr, hn, hz, hg, k⟩ := h
  intro d hd
  have e1 : Ex H (upd H d (.dK [])) := Ex.new hd
  have htd : t ≠ d := ne_of_none ht hd
  have ht1 := e1 _ _ ht
  have hones : ones tb = (tb.map (·.1)).map fun n => (n, (1, 1)) := by
    unfold ones
    rw [List.map_map]
    rfl
  have hsz : EvDQ (tCB (rDictP K) (tCons (tLockE (tLc (iKeys (tVar 0)) (gName 2) tYes (tTup (tCons (tVar 2) (tCons (tTup (tCons (tC (.int 1)) (tCons (tC (.int 1)) tNil))) tNil))) [2])) tNil)) (start ["_law_tables", "_law_groups", "_law_name"] [.ref t, .ref g]) (upd H d (.dK [])) (fun l' H' => RelR pairR H' l' (ones tb)) := by
    refine ed_dictP (fun H H' v a e => pairR_ex e v a) ?_ (by unfold ones; rw [List.map_map]; exact hn)
    refine elq_lock ht1 trivial (fun ys H' u' hu hfz hp => L2.Paired.mapP hp fun a b r => ?_) fun od => ?_
    · obtain ⟨od, rfl⟩ := hfz
      obtain ⟨q, v, rfl, h1, h2⟩ := r
      exact ⟨q, _, rfl, by rw [upd_ne (fun z => by subst z; rw [h1] at hu; cases hu)]; exact h1, pairR_upd hu (fun _ z => nomatch z) h2⟩
    · rw [hones]
      refine el_pairs (fun H H' v a e => pairR_ex e v a) (fun v a H D zs u hD => pairR_upd hD fun _ z => nomatch z) (fun _ => (1, 1)) ?_ (by rw [List.length_map]; exact Nat.le_trans hz (by decide)) (fun _ => rfl) (fun _ => rfl) fun n H3 e3 _ => eq_one1
      have := src_keys (σ := start ["_law_tables", "_law_groups", "_law_name"] [.ref t, .ref g]) (l := l) (o := od) (td := tVar 0) (H := upd (upd H d (.dK [])) t (.frz od (.dK (kS l)))) (d := t) (ev_var rfl) upd_same
      rw [← hr.keys, List.map_map]
      exact this
  refine ⟨.ref t, rfl, .ref g, rfl, hsz _ (Ex.refl _) _ fun z l2 H2 hz2 e2 h2 hr2 => ?_⟩
  have hzd : d ≠ z := fun y => by subst y; rw [upd_same] at hz2; cases hz2
  have hd2 : H2 d = some (.dK []) := e2 _ _ upd_same
  refine ⟨hd2, kS [("tables", .ref t), ("groups", .ref g), ("sizes", .ref z)], rfl, Nat.le_of_ble_eq_true rfl, ?_⟩
  rw [mergeK_new [("tables", .ref t), ("groups", .ref g), ("sizes", .ref z)] (show ([("tables" : Str), "groups", "sizes"]).Nodup by decide)]
  refine k d z l2 _ hd (fresh_back e1 hz2) hzd ((e1.trans e2).mut hd) upd_same (by rw [upd_ne (Ne.symm hzd)]; exact h2) (hr2.mono fun v a h => pairR_upd hd2 (fun _ y => nomatch y) h)
theorem sc__law_plain : FnScope ["_law_tables", "_law_groups", "_law_name"] ["_law_tables", "_law_groups"] (defScope s__law_plain) := ⟨rfl, rfl, rfl, by decide +kernel, rfl, by decide +kernel, by decide +kernel⟩
theorem d__law_plain {P : Program} {w : World} {K : PySem.W.Frag} {mg : Str → Option Value} {base : Heap} (T : Txt K mg) {f : Addr} {cdv : Value} {A : Around} {outer : List Env} {s : Shared} {H : Hp} {E : XK} (hr : Room 0 (A.deeper (envOfC "_law_plain" (defScope s__law_plain) s.heap.objs.size f cdv))) :
    PSs (cxOf CX0 P w K mg base ["_law_tables", "_law_groups", "_law_name"] "_law_plain" (defScope s__law_plain) f cdv A outer s H E).nox (defBody s__law_plain) (t__law_plain K) := by
  have hu := hu_of hr
  exact (pss_one (ps_ret (pe_disp (pps_cons pe_str (pv 0) (pps_cons pe_str (pv 1) (pps_cons pe_str (pe_callTy (call_dictP rfl) (by rfl) T.b_dict (by decide +kernel) (pa_cons (pe_lock (pe_lc (own := [("_law_name", 2)]) rfl sc__law_plain.nd (pi_keys (pv 0)) (blkOk_by (own := [("_law_name", 2)]) (N := ["_law_tables", "_law_groups", "_law_name"]) (sc := defScope s__law_plain) (by decide +kernel)) (fun _ _ _ _ _ => (pg_name (i := 2) sc__law_plain.nd rfl (Or.inl rfl))) (fun _ _ _ _ _ => pts_nil) (fun _ _ _ _ _ => (pe_tup (pa_cons (pv 2) (pa_cons (pe_tup (pa_cons pe_int (pa_cons pe_int pa_nil))) pa_nil)))))) pa_nil)) pps_nil))) (by rfl) (by rfl) (fun z => by cases z) (by decide))))
theorem ok__law_plain {P : Program} {w : World} {K : PySem.W.Frag} {mg : Str → Option Value} {base : Heap} (T : Txt K mg) : FnOk P w K mg base CX0 1 T.l_plain.f T.l_plain.fd ["_law_tables", "_law_groups"] (sp__law_plain) :=
  ok0 T.l_plain.F sc__law_plain len__law_plain fun cdv A outer s H vs Q E hr h => ⟨t__law_plain K, d__law_plain T hr, pure__law_plain h⟩
theorem cl__law_plain {P : Program} {w : World} {K : PySem.W.Frag} {mg : Str → Option Value} {base : Heap} (T : Txt K mg) : Cl P w K mg base 1 "_law_plain" sp__law_plain := cl_of T.l_plain (ok__law_plain T) fun _ _ _ _ _ _ us hl => match us, hl with | [_, _], _ => rfl

end K08

namespace K08
open PySem PySem.Spec PyProof.Rows L2 Evl
/-! ### set(texts) and sorted(of a set of texts) -/
section
open PySem.W in
/-- the text of a member -/
def txOf (e : Int × Value) : Str := match e.2 with
  | .str k _ => k
  | _ => Str.empty
def TxM (w : World) (e : Int × Value) : Prop := ∃ k u, e.2 = Value.str k u ∧ e.1 = hashStr w k
/-- at a stands a set whose members are the texts ks -/
def SetS (w : World) (h : Heap) (a : Addr) (ks : List Str) : Prop :=
  ∃ o es ep t, h.get? a = some o ∧ o.ExactSet ∧ o.data = .set es ep t ∧ ((∀ e ∈ es.toList, TxM w e) ∧ ks.Nodup ∧ (es.toList.map txOf).Perm ks) ∧
    es.size < scanBound ∧ t.fits es.size = true ∧ Ris t.place.toList ∧ (t.led = true ∨ w.params.followText "set-order" = true)
variable {P : Program} {w : World} {A : Around} {E : Value → Shared → Prop} {s : Shared} {a : Addr} {ks : List Str}
theorem SetS.keep {h h' : Heap} (R : SetS w h a ks) (k : ∀ o, h.get? a = some o → h'.get? a = some o) : SetS w h' a ks := by
  obtain ⟨o, es, ep, t, q, r⟩ := R; exact ⟨o, es, ep, t, k o q, r⟩
theorem txm_el {l : List (Int × Value)} (g : ∀ e ∈ l, TxM w e) : ElemsOf (PySem.strKind P w) l := by
  intro e he
  obtain ⟨k, u, h1, h2⟩ := g e he
  refine ⟨⟨k, ?_, h2⟩, ?_⟩
  · rw [h1]; exact strKind_is P w k u
  · rw [h1]; rfl
theorem txm_is {e : Int × Value} (g : TxM w e) (k : Str) : (PySem.strKind P w).is k e.2 = true ↔ txOf e = k := by
  obtain ⟨k0, u, h1, _⟩ := g
  unfold txOf
  rw [h1]
  show (k0 == k) = true ↔ k0 = k
  exact beq_iff_eq
theorem txm_mem {l : List (Int × Value)} (g : ∀ e ∈ l, TxM w e) (k : Str) : k ∈ l.map txOf ↔ ∃ e ∈ l, (PySem.strKind P w).is k e.2 = true := by
  rw [List.mem_map]
  exact ⟨fun ⟨e, he, q⟩ => ⟨e, he, (txm_is (g e he) k).mpr q⟩, fun ⟨e, he, q⟩ => ⟨e, he, (txm_is (g e he) k).mp q⟩⟩
def addK (ks : List Str) (k : Str) : List Str := if k ∈ ks then ks else k :: ks
/-- what follows the laying of a new member -/
theorem setS_tail {g : Bool → Sem Unit} (hg : ∀ (b : Bool) (s₁ : Shared) (Q' : Unit → Shared → Prop), Q' () s₁ → wpAny (model P w) A (g b) Q' E s₁) {wd : Bool}
    {o : Obj} {es : Array (Int × Value)} {ep : Nat} {t : SetTable} (ho : s.heap.get? a = some o) (hx : o.ExactSet) (hd : o.data = .set es ep t)
    {es1 : Array (Int × Value)} {t2 : SetTable} {ks1 : List Str} (h1 : (∀ e ∈ es1.toList, TxM w e) ∧ ks1.Nodup ∧ (es1.toList.map txOf).Perm ks1)
    (hb : es1.size < scanBound) (hf : t2.fits es1.size = true) (hr : Ris t2.place.toList) (hl : t2.led = true ∨ w.params.followText "set-order" = true) {R : Option Bool → Shared → Prop}
    (hR : ∀ h', Heap.SameBut a s.heap h' → SetS w h' a ks1 → R (some true) { s with heap := h' }) :
    wpAny (model P w) A (do
      storeSet a es1 t2
      if (!wd && t2.tooFull) = true then do
        g (relayAll t2 es1 (SetTable.grown es1.size)).2.2
        storeSet a (relayAll t2 es1 (SetTable.grown es1.size)).1 (relayAll t2 es1 (SetTable.grown es1.size)).2.1
        pure (some true)
      else pure (some true)) R E s := by
  have n1 := store_at (es' := es1) (t' := t2) ho hd
  have b1 := Heap.SameBut.update s.heap a (Obj.putSet es1 t2)
  refine wpAny_bind (wpAny_storeSet_of ho hd ?_ (fits_of_scanBound hb))
  split
  case isFalse => exact wpAny_pure (hR _ b1 ⟨_, es1, _, t2, n1, hx, rfl, h1, hb, hf, hr, hl⟩)
  case isTrue =>
    have pm := relayAll_perm t2 es1 (SetTable.grown es1.size)
    have f3 := relayAll_fits t2 es1 (SetTable.grown es1.size)
    have r3 := relayAll_ris t2 es1 (SetTable.grown es1.size)
    have l3 := relayAll_led t2 es1 (SetTable.grown es1.size)
    generalize relayAll t2 es1 (SetTable.grown es1.size) = Z at pm f3 r3 l3 ⊢
    obtain ⟨es2, t3, gv⟩ := Z
    dsimp only at pm f3 r3 l3 ⊢
    have z : es2.size < scanBound := by
      have e := pm.length_eq
      rw [Array.length_toList, Array.length_toList] at e
      omega
    have n2 := store_at (es' := es2) (t' := t3) n1 rfl
    refine wpAny_bind (hg _ _ _ (wpAny_bind (wpAny_storeSet_of n1 rfl (wpAny_pure (hR _ (b1.trans (Heap.SameBut.update _ a _)) ⟨_, es2, _, t3, n2, hx, rfl, ⟨fun e he => h1.1 e (pm.mem_iff.mp he), h1.2.1, (pm.map txOf).trans h1.2.2⟩, z, f3, r3, ?_⟩)) (fits_of_scanBound z))))
    rw [l3]
    exact hl
theorem setS_add {k : Str} {u : Tok} {Q : Bool → Shared → Prop} (R : SetS w s.heap a ks) (room : ks.length + 1 < scanBound)
    (hQ : ∀ b h', Heap.SameBut a s.heap h' → SetS w h' a (addK ks k) → Q b { s with heap := h' }) : wpAny (model P w) A (setAddHashed a (.str k u) (hashStr w k)) Q E s := by
  obtain ⟨o, es, ep, t, ho, hx, hd, ⟨g, nd, pk⟩, hb, hf, hr, hl⟩ := R
  have hk : (PySem.strKind P w).is k (.str k u) = true := strKind_is P w k u
  have sc : (Value.str k u).scannable = true := rfl
  have el : ElemsOf (PySem.strKind P w) es.toList := txm_el g
  have sz : es.size = ks.length := by
    have e := pk.length_eq
    rw [List.length_map, Array.length_toList] at e
    exact e
  unfold setAddHashed setAddHashedIn
  refine wpAny_holding (wpAny_bind (wpAny_setState_of ho hd hf ?_)); dsimp only
  rw [byScan_of sc hb el]; simp only [↓reduceIte]
  unfold setAddByScan
  refine wpAny_bind (wpAny_bind (wpAny_rule (wpAny_bind (wpAny_setScan_of hk ho hd hf el ?_))))
  cases hfi : List.findIdx? (fun e => (PySem.strKind P w).is k e.2) es.toList with
  | some j =>
    dsimp only
    obtain ⟨hj, pj, _⟩ := List.findIdx?_eq_some_iff_getElem.mp hfi
    have kin : k ∈ ks := pk.mem_iff.mp ((txm_mem (P := P) g k).mpr ⟨es.toList[j], List.getElem_mem hj, pj⟩)
    refine wpAny_pure (wpAny_pure (hQ _ s.heap (Heap.SameBut.refl a s.heap) ?_))
    rw [addK, if_pos kin]
    exact ⟨o, es, ep, t, ho, hx, hd, ⟨g, nd, pk⟩, hb, hf, hr, hl⟩
  | none =>
    dsimp only
    have kout : k ∉ ks := fun z => by
      obtain ⟨e, he, q⟩ := (txm_mem (P := P) g k).mp (pk.mem_iff.mpr z)
      have c := List.findIdx?_eq_none_iff.mp hfi e he
      rw [q] at c; cases c
    rw [addK, if_neg kout] at hQ
    have gw : ∀ (b : Bool) {s₁ : Shared} {Q' : Unit → Shared → Prop}, Q' () s₁ → wpAny (model P w) A (match b with
        | true => rule "set.scan.the-table-gave-way"
        | false => pure ()) Q' E s₁ := by
      intro b s₁ Q' q
      cases b
      · exact wpAny_pure q
      · exact wpAny_rule q
    have pm := layNew_perm t es (hashStr w k) (.str k u)
    have f1 := layNew_fits t es (hashStr w k) (.str k u)
    have r1 := layNew_ris t es (hashStr w k) (.str k u) hr
    have l1 := layNew_led t es (hashStr w k) (.str k u)
    generalize layNew t es (hashStr w k) (.str k u) = Z at pm f1 r1 l1 ⊢
    obtain ⟨es1, t1, wd, gv⟩ := Z
    dsimp only at pm f1 r1 l1 ⊢
    rw [Array.toList_push] at pm
    have pc : es1.toList.Perm ((hashStr w k, Value.str k u) :: es.toList) := pm.trans (List.perm_append_singleton _ _)
    have h1 : (∀ e ∈ es1.toList, TxM w e) ∧ (k :: ks).Nodup ∧ (es1.toList.map txOf).Perm (k :: ks) := by
      refine ⟨fun e he => ?_, List.nodup_cons.mpr ⟨kout, nd⟩, (pc.map txOf).trans (List.Perm.cons k pk)⟩
      rcases List.mem_cons.mp (pc.mem_iff.mp he) with z | z
      · rw [z]; exact ⟨k, u, rfl, rfl⟩
      · exact g e z
    have z1 : es1.size < scanBound := by
      have e := pc.length_eq
      rw [List.length_cons, Array.length_toList, Array.length_toList] at e
      omega
    have ld : t1.led = true ∨ w.params.followText "set-order" = true := by rw [l1]; exact hl
    refine wpAny_bind (gw _ ?_)
    split
    · refine wpAny_bind ?_
      rw [hashByValue_scannable 8 sc]
      refine wpAny_pure (setS_tail ?_ ho hx hd h1 z1 ?_ ?_ ?_ ?_)
      · intro b s₁ Q' q
        cases b
        · exact wpAny_pure q
        · exact wpAny_rule q
      · first | (split <;> first | exact f1 | exact SetTable.fits_plain_off f1) | exact f1
      · first | (split <;> exact r1) | exact r1
      · first | (split <;> exact ld) | exact ld
      · intro h' sb r; exact wpAny_pure (hQ _ h' sb r)
    · refine wpAny_bind (wpAny_pure ?_)
      simp only [↓reduceIte]
      refine setS_tail ?_ ho hx hd h1 z1 f1 r1 ld ?_
      · intro b s₁ Q' q
        cases b
        · exact wpAny_pure q
        · exact wpAny_rule q
      · intro h' sb r; exact wpAny_pure (hQ _ h' sb r)
/-! #### set(xs) -/
abbrev emptyS (w : World) : Obj := { cls := .type "set", dict := none, data := .set #[] 0 (.fresh 0 0 (!w.params.followText "set-order")) }
theorem setS_fresh {h : Heap} (ho : h.get? a = some (emptyS w)) : SetS w h a [] := by
  refine ⟨_, #[], 0, _, ho, ⟨rfl, rfl, rfl⟩, rfl, ⟨fun e he => by simp at he, List.nodup_nil, .nil⟩, by decide, rfl, List.Pairwise.nil, ?_⟩
  show (!w.params.followText "set-order") = true ∨ _
  cases w.params.followText "set-order"
  · exact .inl rfl
  · exact .inr rfl
theorem addK_len (ks : List Str) (k : Str) : (addK ks k).length ≤ ks.length + 1 := by
  unfold addK
  split
  · omega
  · exact Nat.le_refl _
theorem mem_addK {ks : List Str} {k z : Str} : z ∈ addK ks k ↔ z ∈ ks ∨ z = k := by
  unfold addK
  split
  · rename_i h
    exact ⟨.inl, fun q => q.elim id fun e => e ▸ h⟩
  · rw [List.mem_cons]; exact Or.comm
/-- the loop that fills the set -/
theorem fillS {I : Addr} {fp wr : List Addr} {G : Array GenState → Array GenState → Prop} {n : Nat} {Pv : Nat → Value → Prop} {St : Nat → Shared → Prop} {R : Result → Shared → Prop}
    (W : WalksS P w A.in1 I fp wr G n Pv St) (S : Addr) (out : S ∉ fp) (ys : List Str) (hn : ys.length = n) (hb : n + 1 < scanBound) (hv : ∀ i v, Pv i v → ∃ y u, ys[i]? = some y ∧ v = .str y u) :
    ∀ (k i : Nat) (s : Shared) (ks : List Str), i + k = n → St i s → ks.length ≤ i → (∀ z, z ∈ ks ↔ z ∈ ys.take i) → SetS w s.heap S ks →
      (∀ s' ks', Moved (S :: wr) G s s' → ks'.length ≤ n → (∀ z, z ∈ ks' ↔ z ∈ ys) → SetS w s'.heap S ks' → R (.ok (.ret .none)) s') →
      codeAny (model P w) A (.builtin "set.update.loop" ⟨[.ref S, .ref I], []⟩) R s := by
  have noW : S ∉ wr := fun h => out (W.sub _ h)
  have up : ∀ b ∈ wr, b ∈ S :: wr := fun b => List.mem_cons_of_mem _
  intro k
  induction k with
  | zero =>
    intro i s ks hi st hl hm hS hR
    obtain rfl : i = n := by omega
    refine codeAny_builtin PyProof.Rows.F.entry_set_update_loop ?_
    rw [Around.under_plainId PyProof.Rows.F.plain_set_update_loop _]
    refine wpAny_bind (m := pyNext (.ref I)) (W.done s _ _ st fun s' mv => ?_)
    refine wpAny_pure (hR s' ks (mv.mono up) hl (fun z => ?_) (hS.keep fun o e => mv.heap S o noW e))
    rw [hm z, List.take_of_length_le (by omega)]
  | succ k ih =>
    intro i s ks hi st hl hm hS hR
    refine codeAny_builtin PyProof.Rows.F.entry_set_update_loop ?_
    rw [Around.under_plainId PyProof.Rows.F.plain_set_update_loop _]
    refine wpAny_bind (m := pyNext (.ref I)) (W.item i s _ _ (by omega) st fun v s1 hp st1 mv => ?_)
    obtain ⟨y, u, hy, rfl⟩ := hv i v hp
    have S1 : SetS w s1.heap S ks := hS.keep fun o e => mv.heap S o noW e
    refine wpAny_bind (m := holding [Value.str y u] (setAdd S (.str y u))) (wpAny_holding ?_)
    unfold setAdd
    refine wpAny_holding (wpAny_bind ((PySem.strKind P w).pyHash (k := y) (strKind_is _ _ _ _) ?_))
    refine setS_add (s := { s1 with toks := s1.toks + 1 }) S1 (by omega) fun b h2 sb S2 => ?_
    have hl2 : (addK ks y).length ≤ i + 1 := Nat.le_trans (addK_len ks y) (Nat.succ_le_succ hl)
    refine wpAny_pure ⟨plainId_quiet PyProof.Rows.F.plain_set_update_loop _, ih (i + 1) _ (addK ks y) (by omega) ?_ hl2 (fun z => ?_) S2 fun s3 ks3 mv3 g1 g2 g3 => ?_⟩
    · exact W.frame _ s1 _ _ st1 (Nat.le_succ _) fun b hb o e => (sb.2 b fun z : b = S => out (z ▸ hb)).trans e
    · rw [mem_addK, hm z, List.take_add_one, hy, List.mem_append]
      simp
    · refine hR s3 ks3 (Moved.trans W.gtrans ((mv.mono up).then_heap (Nat.le_succ _) fun b o hb e => ?_) mv3) g1 g2 g3
      exact (sb.2 b fun z : b = S => hb (by rw [z]; exact List.mem_cons_self)).trans e
theorem str_nth : ∀ {us : List Value} {xs : List Str}, StrsAre us xs → ∀ (i : Nat) (v : Value), us[i]? = some v → ∃ u, v = .str (xs.getD i Str.empty) u
  | _, _, .nil, _, _, h => nomatch h
  | _, _, .cons _ u _, 0, _, h => ⟨u, (Option.some.inj h).symm⟩
  | _, _, .cons _ _ r, i + 1, v, h => str_nth r i v h
set_option maxHeartbeats 3200000 in
/-- set(xs) of a list of texts -/
theorem newS {l : Addr} {its : Array Value} {ys : List Str} {Q : Value → Shared → Prop} (hh : A.handled = none) (hl : s.heap.IsList l its) (hi : StrsAre its.toList ys) (hb : ys.length + 1 < scanBound)
    (h : ∀ h' u ks, SetS w h' s.heap.objs.size ks → ks.length ≤ ys.length → (∀ z, z ∈ ks ↔ z ∈ ys) → (∀ b o, s.heap.get? b = some o → h'.get? b = some o) → Q (.ref s.heap.objs.size) { s with heap := h', toks := u }) :
    wpAny (model P w) A (call (.type "set") [.ref l]) Q E s := by
  have hz : ys.length = its.size := by rw [← StrsAre.len_eq hi, Array.length_toList]
  have mro := PySem.F.called_set.mro
  obtain ⟨c, tl, hmro⟩ := mro
  have made := PySem.F.called_set.made
  have sub := PySem.F.called_set.sub
  have nt := PySem.F.called_set.notType
  have cc := PySem.F.called_set.canCreate
  have tc := PySem.F.typeCall_set_1 (.ref l)
  refine wpAny_call (codeAny_of_tree ?_)
  refine wpAny_pure (a := _) ⟨Code.quiet_builtin _ (by decide +kernel), codeAny_builtin PySem.F.entry_type_call ?_⟩
  rw [Around.under_plain (weight_type_call_type "set" [.ref l] []) rfl]
  repeat (any_goals (first
    | assumption
    | wp_step))
  refine codeAny_mono (code_set_led1 (.ref l) (E := E) (Q₁ := fun x s₁ => x = .ref s.heap.objs.size ∧ s₁ = { s with heap := s.heap.push (emptyS w) }) ⟨rfl, rfl⟩) fun r s₁ hr => ?_
  rcases r with e | fl
  · exact hr
  rcases fl
  all_goals first
    | exact hr.elim
    | skip
  obtain ⟨rfl, rfl⟩ := hr
  have nS : (s.heap.push (emptyS w)).get? s.heap.objs.size = some (emptyS w) := Heap.get?_push_size _ rfl
  have nT : Shared.TypeIs { s with heap := s.heap.push (emptyS w) } (.ref s.heap.objs.size) "set" := ⟨_, nS, rfl⟩
  have il := PySem.F.called_set.init.lookup
  have ib := PySem.F.called_set.init.bind (.ref s.heap.objs.size)
  repeat (any_goals (first
    | assumption
    | wp_step))
  refine codeAny_mono (codeAny_call_builtin (R := wants (fun r s₂ => r = .none ∧ ∃ h' u ks, s₂ = { s with heap := h', toks := u } ∧ SetS w h' s.heap.objs.size ks ∧ ks.length ≤ ys.length ∧ (∀ z, z ∈ ks ↔ z ∈ ys) ∧
      (∀ b o, s.heap.get? b = some o → h'.get? b = some o)) E) PySem.F.called_set.init.plain PySem.F.entry_set_init (check_set_init_1 nT ?_)) fun r2 s2 hr2 => ?_
  · obtain ⟨⟨oc, od, oda, os⟩, hol, hcl, nl, hdl⟩ := hl
    simp only at hcl hdl
    subst hcl
    subst hdl
    have hol1 : (s.heap.push (emptyS w)).get? l = some { cls := .type "list", dict := od, data := .seq its nl, slots := os } := Heap.get?_push_of_some _ hol
    have c1 := PySem.F.sub_list_set
    have c2 := PySem.F.sub_list_frozenset
    have c3 : (Value.type "list" == Value.type "dict") = false := by decide
    have hl1 : (s.heap.push (emptyS w)).IsList l its := ⟨_, hol1, rfl, nl, rfl⟩
    have hlt : l < s.heap.objs.size := Heap.lt_size hol
    have hh3 : A.in1.in1.in1.handled = none := by simp [hh]
    have z1 : (s.heap.push (emptyS w)).objs.size = s.heap.objs.size + 1 := Heap.size_push ..
    have nI : l ≠ (s.heap.push (emptyS w)).objs.size := by rw [z1]; exact fun e => Nat.lt_irrefl _ (Nat.lt_trans (Nat.lt_of_lt_of_eq hlt rfl) (e ▸ Nat.lt_succ_self s.heap.objs.size))
    have nF : s.heap.objs.size ∉ [(s.heap.push (emptyS w)).objs.size, l] := by
      rw [z1]
      intro hm
      rcases List.mem_cons.mp hm with q | q
      · exact Nat.ne_of_lt (Nat.lt_succ_self _) q
      · exact Nat.ne_of_gt hlt (List.mem_singleton.mp q)
    have val : ∀ (i : Nat) (v : Value), its[i]? = some v → ∃ y u, ys[i]? = some y ∧ v = .str y u := fun i v e => by
      have lt : i < ys.length := by rw [hz]; exact (Array.getElem?_eq_some_iff.mp e).1
      obtain ⟨u, q⟩ := str_nth hi i v (by rw [Array.getElem?_toList]; exact e)
      exact ⟨ys[i], u, List.getElem?_eq_getElem lt, by rw [q, List.getD_eq_getElem?_getD, List.getElem?_eq_getElem lt]; rfl⟩
    unfold Builtin.«set.__init__» noKeywords Builtin.Frozenset.updateFrom
    generalize hIt : pyIter = It
    wp_walk
    subst hIt
    refine wpAny_pyIter_list hl1 (wpAny_bind (wpAny_runValue ?_))
    refine fillS ((Walks.list hh3 _ l nI its).toS) s.heap.objs.size nF ys hz (by omega) val its.size 0 _ [] (Nat.zero_add _) ⟨⟨_, Heap.get?_push_size _ rfl, rfl, rfl⟩, hl1.push _⟩ (Nat.le_refl _) (fun z => by simp) (setS_fresh ?_) ?_
    · exact Heap.get?_push_of_some _ nS
    · intro s' ks mv k1 k2 k3
      obtain ⟨h', g', d', u', o'⟩ := s'
      obtain rfl : g' = s.gens := mv.gens
      obtain rfl : d' = s.drawn := mv.drawn
      obtain rfl : o' = s.os := mv.os
      refine wpAny_pure (a := _) (wpAny_pure ⟨rfl, h', u', ks, rfl, k3, by omega, k2, fun b o e => ?_⟩)
      have lt := Heap.lt_size e
      refine mv.heap b o (fun hm => ?_) (Heap.get?_push_of_some _ (Heap.get?_push_of_some _ e))
      rw [z1] at hm
      rcases List.mem_cons.mp hm with q | q
      · exact Nat.ne_of_lt lt q
      · exact Nat.ne_of_lt (Nat.lt_succ_of_lt lt) (List.mem_singleton.mp q)
  · rcases r2 with e | fl
    · exact hr2
    rcases fl
    all_goals first
      | exact hr2.elim
      | skip
    obtain ⟨rfl, h', u, ks, rfl, k1, k2, k3, k4⟩ := hr2
    repeat (any_goals (first
      | assumption
      | wp_step))
    exact h _ _ _ k1 k2 k3 k4
/-! #### sorted(xs) of a set -/
theorem txs_of : ∀ (l : List Value), (∀ v ∈ l, ∃ k u, v = Value.str k u) → StrsAre l (l.map fun v => txOf (0, v))
  | [], _ => .nil
  | v :: l, h => by
    obtain ⟨k, u, rfl⟩ := h v List.mem_cons_self
    exact .cons k u (txs_of l fun x hx => h x (List.mem_cons_of_mem _ hx))
theorem sortedSet {Q : Value → Shared → Prop} (R : SetS w s.heap a ks) (hh : A.handled = none) (few : ks.length < 3000)
    (hQ : ∀ s' p (out : Array Value) (c : Nat) ys, (∀ b o, s.heap.get? b = some o → s'.heap.get? b = some o) → s'.gens = s.gens → s'.os = s.os → s.heap.objs.size ≤ p →
      s'.heap.get? p = some (seqObj "list" out c) → StrsAre out.toList ys → ys.Perm ks → sortedS ys = true → Q (.ref p) s') :
    wpAny (model P w) A (call (.builtin "sorted") [.ref a]) Q E s := by
  obtain ⟨o, es, ep, t, ho, hx, hd, ⟨g, nd, pk⟩, hb, hf, hr, hl⟩ := R
  refine Calls.call_function_entry PyProof.Rows.kind_sorted PyProof.Rows.plain_sorted PyProof.Rows.entry_sorted (PyProof.Rows.args_sorted1 _) ?_
  unfold Builtin.«sorted»
  refine wpAny_bind (m := checkCount "sorted" 1 1 _) (wpAny_pure (wpAny_bind (collect_set (A := A.in1) hh ⟨o, ho, hx.1, hd⟩ hf hb hr hl.symm fun s1 vs k1 hz g1 o1 pm => ?_)))
  have hI : StrsAre vs (vs.map fun v => txOf (0, v)) := txs_of vs fun v hv => by
    obtain ⟨e, he, q⟩ := List.mem_map.mp (pm.mem_iff.mp hv)
    obtain ⟨k, u, h1, _⟩ := g e he
    exact ⟨k, u, by rw [← q]; exact h1⟩
  have pp : (vs.map fun v => txOf (0, v)).Perm ks := by
    have q := pm.map fun v => txOf (0, v)
    rw [List.map_map] at q
    exact q.trans pk
  have vl : vs.length = ks.length := by rw [← pp.length_eq, List.length_map]
  refine wpAny_bind (wpAny_newList ?_ (by rw [vl, sizeLine_eq]; omega))
  have nL : (s1.heap.push (seqObj "list" vs.toArray 0)).get? s1.heap.objs.size = some (seqObj "list" vs.toArray 0) := Heap.get?_push_size _ rfl
  refine wpAny_bind (wpAny_holding (wpAny_call_entry PyProof.Rows.slot_list_sort ⟨_, nL, rfl⟩ PyProof.Rows.entry_list_sort
    (list_sort_treeKAny strKind_oneLt nL hI.keysOf (fun v₁ v₂ rest e => keyKind_strs (by rw [← e]; exact hI)) (by rw [vl, sizeLine_eq]; omega) fun st hp hs => ⟨_, rfl, ?_⟩) (PyProof.Rows.args_list_sort _)))
  obtain ⟨ys, y1, y2, y3⟩ := sorted_out_str hI hp hs
  obtain ⟨c, hc⟩ := PyProof.Rows.sortedHeap_at (vs := vs) (out := (arrOf st).map (·.2)) nL
  refine wpAny_pure ⟨_, rfl, hQ _ s1.heap.objs.size _ c ys (fun b u e => ?_) g1 o1 hz hc y1 (y2.trans pp) y3⟩
  have q := k1 b u e
  have lt := Heap.lt_size q
  show (PyProof.Rows.sortedHeap (s1.heap.push (seqObj "list" vs.toArray 0)) s1.heap.objs.size vs _).get? b = some u
  rw [PyProof.Rows.sortedHeap_old (Nat.ne_of_lt lt) (by rw [size_push']; exact Nat.lt_succ_of_lt lt)]
  exact Heap.get?_push_of_some _ q
end
/-! #### the rules -/
def TxO (w : World) (a : Addr) (ks : List Str) : HO := .ext fun h => SetS w h a ks
def rSetT (K : PySem.W.Frag) (w : World) : List V → Hp → VK → Prop := fun xs H Q => ∃ (a : Addr) (ys : List Str), xs = [V.ref a] ∧ SqL K H a (ys.map V.str) ∧ ys.length < 3000 ∧
  ∀ ks p, ks.length ≤ ys.length → (∀ z, z ∈ ks ↔ z ∈ ys) → H p = none → Q (.ref p) (upd H p (TxO w p ks))
def rSortT (w : World) : List V → Hp → VK → Prop := fun xs H Q => ∃ (a : Addr) (ks : List Str), xs = [V.ref a] ∧ H a = some (TxO w a ks) ∧ ks.length < 3000 ∧
  ∀ p, H p = none → Q (.ref p) (upd H p (.lst ((setSort ks).map V.str)))
section
variable {X : Cx}
theorem cr_setT (hc : X.calm = true) : CallR X (.type "set") (rSetT X.K X.w) := by
  intro pins s σ H vs us Q I r h
  obtain ⟨a, ys, rfl, hs, few, q⟩ := h
  obtain ⟨its, rv, hl, _⟩ := I.list hs
  rw [Vals.ref1 r]
  refine newS (I.ok.hd hc) hl.isList rv.strs (by unfold scanBound; omega) fun h' u ks k1 k2 k3 k4 => ?_
  have n : H s.heap.objs.size = none := I.hok.fresh (Nat.le_refl _)
  refine ⟨.ref _, upd H s.heap.objs.size (TxO X.w s.heap.objs.size ks), I.laid (t' := u) k4 (Nat.le_refl _) ⟨k1, ?_, fun h1 h2 p k => SetS.keep p k⟩, rfl, q ks _ k2 k3 n⟩
  obtain ⟨o, _, _, _, ho, _⟩ := k1
  exact ⟨o, ho⟩
theorem cr_sortT (hc : X.calm = true) : CallR X (.builtin "sorted") (rSortT X.w) := by
  intro pins s σ H vs us Q I r h
  obtain ⟨a, ks, rfl, ha, few, q⟩ := h
  have R : SetS X.w s.heap a ks := (I.hok a _ ha).1
  have nd : ks.Nodup := by
    obtain ⟨_, _, _, _, _, _, _, ⟨_, z, _⟩, _⟩ := R
    exact z
  rw [Vals.ref1 r]
  refine sortedSet R (I.ok.hd hc) (by omega) fun s' p out c ys k g o hp hg hi hm hs => ?_
  obtain rfl : ys = setSort ks := perm_setSort hm hs nd
  have ln : ((setSort ks).map V.str).length ≤ sizeLine := by
    rw [List.length_map, hm.length_eq, sizeLine_eq]
    omega
  have n : H p = none := I.hok.fresh hp
  have J : Inv X pins σ (upd H p (.lst ((setSort ks).map V.str))) { s with heap := s'.heap, gens := s'.gens, drawn := s'.drawn, toks := s'.toks } :=
    I.call (ch := []) (Un.laid k hp n) (I.hok.laid k hp ⟨ln, out.toList, c, vals_of_strs hi, hg⟩) (by rw [g]; exact I.bare) (fun _ z => nomatch z)
  have e : s' = { s with heap := s'.heap, gens := s'.gens, drawn := s'.drawn, toks := s'.toks } := by
    obtain ⟨_, _, _, _, _⟩ := s'
    obtain rfl := o
    rfl
  rw [e]
  exact ⟨.ref p, _, J, rfl, q p n⟩
end

end K08

namespace K08
open PySem PySem.Spec PyProof.Rows L2 Evl
/-! ### lists, new or old -/
def EvW (te : TE) (σ : L2.St) (H : Hp) (xs : List V) : Prop := ∀ H1, Ex H H1 → ∀ Q : VK, (∀ p H2, Ex H1 H2 → H2 p = some (.lst xs) → Q (.ref p) H2) → te σ H1 Q
section
variable {σ : L2.St} {H : Hp} {te ta tb : TE} {xs ys : List V} {a : Addr}
theorem ew_old (h : Ev te σ H (.ref a)) (hx : H a = some (.lst xs)) : EvW te σ H xs := fun H1 e Q q => h H1 e _ fun H2 e2 => q a H2 e2 ((e.trans e2) _ _ hx)
theorem ew_new (h : EvL te σ H xs) : EvW te σ H xs := fun H1 e Q q => h H1 e _ fun p H2 _ e2 hx => q p H2 e2 hx
theorem el_cat (ha : EvW ta σ H xs) (hb : EvW tb σ H ys) (hz : xs.length + ys.length ≤ 100000) : EvL (tOp rCat ta tb) σ H (xs ++ ys) := fun H1 e Q q =>
  ha H1 e _ fun p H2 e2 hx => hb H2 (e.trans e2) _ fun r H3 e3 hy => ⟨p, r, xs, ys, rfl, rfl, e3 _ _ hx, hy, sz_of hz, fun l hl => q l _ (fresh_back (e2.trans e3) hl) ((e2.trans e3).trans (Ex.new hl)) upd_same⟩
end

/-! ### _law_names -/
def t__law_names (K : PySem.W.Frag) : TS :=
  (tRet (tCB rSortedD (tCons (tDGet (tVar 0) (tC (.str "tables"))) tNil)))
theorem PlA.field {H : Hp} {d : Addr} {p : P0} (h : PlA H d p) : ∃ (t g z : Addr) (l l2 : List (Str × V)), DS H d [("tables", .ref t), ("groups", .ref g), ("sizes", .ref z)] ∧ DS H t l ∧ RelR lstR H l p.tb ∧ H g = some (.lst (p.gr.map V.str)) ∧ DS H z l2 ∧ RelR pairR H l2 p.sz := by
  obtain ⟨t, g, z, l, l2, h1, h2, h3, h4, h5, h6⟩ := h
  exact ⟨t, g, z, l, l2, .inl h1, .inl h2, h3, h4, .inl h5, h6⟩
theorem lk_t {a b c : V} : List.lookup ("tables" : Str) [(("tables" : Str), a), ("groups", b), ("sizes", c)] = some a := rfl
theorem lk_g {a b c : V} : List.lookup ("groups" : Str) [(("tables" : Str), a), ("groups", b), ("sizes", c)] = some b := by
  rw [List.lookup_cons, show (("groups" : Str) == "tables") = false by decide]
  rfl
theorem lk_z {a b c : V} : List.lookup ("sizes" : Str) [(("tables" : Str), a), ("groups", b), ("sizes", c)] = some c := by
  rw [List.lookup_cons, show (("sizes" : Str) == "tables") = false by decide]
  show List.lookup _ _ = _
  rw [List.lookup_cons, show (("sizes" : Str) == "groups") = false by decide]
  rfl
def sp__law_names : Sp := fun vs H Q _ => ∃ (d : Addr) (p : P0), vs = [.ref d] ∧ PlA H d p ∧ (p.tb.map (·.1)).Nodup ∧ p.tb.length < 64 ∧ ∀ l H', H l = none → Ex H H' → H' l = some (.lst ((namesOf' p.tb).map V.str)) → Q (.ref l) H'
theorem len__law_names : ∀ vs H Q E, sp__law_names vs H Q E → vs.length = 1 := fun vs H Q E ⟨_, _, e, _⟩ => by rw [e]; rfl
theorem pure__law_names {K : PySem.W.Frag} {vs : List V} {H : Hp} {Q : VK} {E : XK} (h : sp__law_names vs H Q E) : t__law_names K { nx := fun _ H' => Q .non H', rt := Q } (start ["_law_plain_here"] vs) H := by
  obtain ⟨d, p, rfl, hp, hn, hz, k⟩ := h
  obtain ⟨t, g, z, l, l2, h1, h2, h3, _, _, _⟩ := hp.field
  refine s_retL (el_sortedK (ev_dget (ev_var rfl) ev_c h1 lk_t) h2 (by rw [h3.keys]; exact hn) (by rw [h3.len]; exact hz)) fun q H2 hq e2 hx => ?_
  rw [h3.keys] at hx
  exact k q H2 hq e2 hx
theorem sc__law_names : FnScope ["_law_plain_here"] ["_law_plain_here"] (defScope s__law_names) := ⟨rfl, rfl, rfl, by decide +kernel, rfl, by decide +kernel, by decide +kernel⟩
theorem d__law_names {P : Program} {w : World} {K : PySem.W.Frag} {mg : Str → Option Value} {base : Heap} (T : Txt K mg) {f : Addr} {cdv : Value} {A : Around} {outer : List Env} {s : Shared} {H : Hp} {E : XK} (hr : Room 0 (A.deeper (envOfC "_law_names" (defScope s__law_names) s.heap.objs.size f cdv))) :
    PSs (cxOf CX0 P w K mg base ["_law_plain_here"] "_law_names" (defScope s__law_names) f cdv A outer s H E).nox (defBody s__law_names) (t__law_names K) := by
  have hu := hu_of hr
  exact (pss_one (ps_ret (pe_callB (call_sortedD rfl) (by rfl) T.b_sorted (by decide +kernel) (pa_cons (pe_dget hu (pv 0) pe_str (fun _ _ => rfl)) pa_nil))))
theorem ok__law_names {P : Program} {w : World} {K : PySem.W.Frag} {mg : Str → Option Value} {base : Heap} (T : Txt K mg) : FnOk P w K mg base CX0 1 T.l_names.f T.l_names.fd ["_law_plain_here"] (sp__law_names) :=
  ok0 T.l_names.F sc__law_names len__law_names fun cdv A outer s H vs Q E hr h => ⟨t__law_names K, d__law_names T hr, pure__law_names h⟩
theorem cl__law_names {P : Program} {w : World} {K : PySem.W.Frag} {mg : Str → Option Value} {base : Heap} (T : Txt K mg) : Cl P w K mg base 1 "_law_names" sp__law_names := cl_of T.l_names (ok__law_names T) fun _ _ _ _ _ _ us hl => match us, hl with | [_], _ => rfl
theorem el_names {σ : L2.St} {H : Hp} {ta : TE} {d : Addr} {p : P0} (ha : Ev ta σ H (.ref d)) (hp : PlA H d p) (hn : (p.tb.map (·.1)).Nodup) (hz : p.tb.length < 64) : EvL (tCl sp__law_names (tCons ta tNil)) σ H ((namesOf' p.tb).map V.str) := fun H1 e Q q =>
  ha H1 e _ fun H2 e2 => ⟨d, p, rfl, hp.ex (e.trans e2), hn, hz, fun l H' hl e3 hx => q l H' (fresh_back e2 hl) (e2.trans e3) hx⟩

/-! ### _law_columns -/
def t__law_columns (K : PySem.W.Frag)(w : World) : TS :=
  (tSeq (tAsg (tLst tNil) (gName 2))
    (tSeq (tFor (iList K (tVar 1)) (gName 3)
    (tAsg (tOp rCat (tVar 2) (tDGet (tDGet (tVar 0) (tC (.str "tables"))) (tVar 3))) (gName 2)))
    (tRet (tCB (rSortT w) (tCons (tCB (rSetT K w) (tCons (tVar 2) tNil)) tNil)))))
/-- the columns of the tables -/
def colsL (tb : Tabs0) (ns : List Str) : List Str := ns.flatMap fun n => (tb.lookup n).getD []
def sp__law_columns (K : PySem.W.Frag) : Sp := fun vs H Q _ => ∃ (d a : Addr) (p : P0) (ns : List Str), vs = [.ref d, .ref a] ∧ PlA H d p ∧ SqL K H a (ns.map V.str) ∧ (∀ n ∈ ns, (p.tb.lookup n).isSome) ∧ (colsL p.tb ns).length < 3000 ∧ ∀ l H', H l = none → Ex H H' → H' l = some (.lst ((setSort (colsL p.tb ns)).map V.str)) → Q (.ref l) H'
theorem len__law_columns {K : PySem.W.Frag} : ∀ vs H Q E, sp__law_columns K vs H Q E → vs.length = 2 := fun vs H Q E ⟨_, _, _, _, e, _⟩ => by rw [e]; rfl
theorem el_sortSet {K : PySem.W.Frag} {w : World} {σ : L2.St} {H : Hp} {te : TE} {a : Addr} {ys : List Str} (h : Ev te σ H (.ref a)) (ha : SqL K H a (ys.map V.str)) (hz : ys.length < 3000) : EvL (tCB (rSortT w) (tCons (tCB (rSetT K w) (tCons te tNil)) tNil)) σ H ((setSort ys).map V.str) := fun H1 e Q q =>
  h H1 e _ fun H2 e2 => ⟨a, ys, rfl, ex_l (e.trans e2) ha, hz, fun ks p k1 k2 hp => ⟨p, ks, rfl, upd_same, Nat.lt_of_le_of_lt k1 hz, fun r hr => by
    rw [setSort_eq k2]
    have e3 := Ex.new (H := H2) (o := TxO w p ks) hp
    exact q r _ (fresh_back e2 (fresh_back e3 hr)) ((e2.trans e3).trans (Ex.new hr)) upd_same⟩⟩
theorem lookup_get {tb : Tabs0} {n : Str} (h : (tb.lookup n).isSome) : tb.lookup n = some ((tb.lookup n).getD []) := by
  cases e : tb.lookup n with
  | none => rw [e] at h; cases h
  | some c => rfl
theorem pure__law_columns {K : PySem.W.Frag} {w : World} {vs : List V} {H : Hp} {Q : VK} {E : XK} (h : sp__law_columns K vs H Q E) : t__law_columns K w { nx := fun _ H' => Q .non H', rt := Q } (start ["_law_plain_here", "_law_names_here", "_law_found", "_law_name"] vs) H := by
  obtain ⟨d, a, p, ns, rfl, hp, ha, hin, hz, k⟩ := h
  refine q_asgL (el_lst ea_nil (by decide)) fun f H1 hf e1 hf1 => ?_
  refine q_forL (ev_var rfl) (ex_l e1 ha) (fun i σ' H' => ∃ (x : Option V) (q : Addr), σ' = [some (.ref d), some (.ref a), some (.ref q), x] ∧ Ex H H' ∧ H' q = some (.lst ((colsL p.tb (ns.take i)).map V.str)))
    (fun H2 e2 => ⟨none, f, rfl, e1.trans e2, e2 _ _ hf1⟩) (fun i σ' H' _ p => by obtain ⟨_, _, _, p, _⟩ := p; exact ex_l p ha) (fun i v σ' H' hi p => ?_) (fun σ' H' p => ?_)
  · obtain ⟨x, q, rfl, e2, hq⟩ := p
    rw [List.getElem?_map] at hi
    obtain ⟨n, hn, rfl⟩ := Option.map_eq_some_iff.mp hi
    have hm : n ∈ ns := List.mem_of_getElem? hn
    obtain ⟨t, g, z, l, l2, h1, h2, h3, _, _, _⟩ := (hp.ex e2).field
    obtain ⟨v, hv, c, rfl, hc⟩ := h3.get (lookup_get (hin n hm))
    have hlen : (colsL p.tb (ns.take (i + 1))).length ≤ (colsL p.tb ns).length := flat_take_le _ ns (i + 1)
    unfold colsL at hlen
    rw [take_flat hn, List.length_append] at hlen
    refine s_asgL (el_cat (ew_old (ev_var rfl) hq) (ew_old (ev_dget (ev_dget (ev_var rfl) ev_c h1 lk_t) (ev_var rfl) h2 hv) hc) (by simp only [List.length_map]; unfold colsL at hz ⊢; omega)) fun r H3 hr e3 hx => ?_
    refine ⟨_, r, rfl, e2.trans e3, ?_⟩
    rw [hx, ← List.map_append]
    unfold colsL
    rw [take_flat hn]
  · obtain ⟨x, q, rfl, e2, hq⟩ := p
    rw [List.length_map, List.take_length] at hq
    exact s_retL (el_sortSet (ev_var rfl) (SqL.of hq) hz) fun r H3 hr e3 hx => k r H3 (fresh_back e2 hr) (e2.trans e3) hx
theorem sc__law_columns : FnScope ["_law_plain_here", "_law_names_here", "_law_found", "_law_name"] ["_law_plain_here", "_law_names_here"] (defScope s__law_columns) := ⟨rfl, rfl, rfl, by decide +kernel, rfl, by decide +kernel, by decide +kernel⟩
theorem d__law_columns {P : Program} {w : World} {K : PySem.W.Frag} {mg : Str → Option Value} {base : Heap} (T : Txt K mg) {f : Addr} {cdv : Value} {A : Around} {outer : List Env} {s : Shared} {H : Hp} {E : XK} (hr : Room 0 (A.deeper (envOfC "_law_columns" (defScope s__law_columns) s.heap.objs.size f cdv))) :
    PSs (cxOf CX0 P w K mg base ["_law_plain_here", "_law_names_here", "_law_found", "_law_name"] "_law_columns" (defScope s__law_columns) f cdv A outer s H E).nox (defBody s__law_columns) (t__law_columns K w) := by
  have hu := hu_of hr
  exact (pss_cons (ps_asg (pe_lst pa_nil) (pg_name (i := 2) sc__law_columns.nd rfl (Or.inl rfl)))
      (pss_cons (ps_for PassesOwn.never rfl (pi_list (pv 1)) (pg_name (i := 3) sc__law_columns.nd rfl (Or.inl rfl))
      (pss_one (ps_asg (pe_op op_cat (pv 2) (pe_dget hu (pe_dget hu (pv 0) pe_str (fun _ _ => rfl)) (pv 3) (fun _ _ => rfl))) (pg_name (i := 2) sc__law_columns.nd rfl (Or.inl rfl)))))
      (pss_one (ps_ret (pe_callB (cr_sortT rfl) (by rfl) T.b_sorted (by decide +kernel) (pa_cons (pe_callTy (cr_setT rfl) (by rfl) T.b_set (by decide +kernel) (pa_cons (pv 2) pa_nil)) pa_nil))))))
theorem ok__law_columns {P : Program} {w : World} {K : PySem.W.Frag} {mg : Str → Option Value} {base : Heap} (T : Txt K mg) : FnOk P w K mg base CX0 1 T.l_columns.f T.l_columns.fd ["_law_plain_here", "_law_names_here"] (sp__law_columns K) :=
  ok0 T.l_columns.F sc__law_columns len__law_columns fun cdv A outer s H vs Q E hr h => ⟨t__law_columns K w, d__law_columns T hr, pure__law_columns h⟩
theorem cl__law_columns {P : Program} {w : World} {K : PySem.W.Frag} {mg : Str → Option Value} {base : Heap} (T : Txt K mg) : Cl P w K mg base 1 "_law_columns" (sp__law_columns K) := cl_of T.l_columns (ok__law_columns T) fun _ _ _ _ _ _ us hl => match us, hl with | [_, _], _ => rfl

/-! ### _law_less -/
def t__law_less (K : PySem.W.Frag) : TS :=
  (tRet (tOp rLtI (tOp rTimesW (tOp (rIxT K) (tVar 0) (tC (.int 0))) (tOp (rIxT K) (tVar 1) (tC (.int 1)))) (tOp rTimesW (tOp (rIxT K) (tVar 1) (tC (.int 0))) (tOp (rIxT K) (tVar 0) (tC (.int 1))))))
theorem ok400 {i : Int} (h : okInt i) : i.natAbs < 2 ^ 400 := Nat.lt_trans h (by decide +kernel)
theorem okMul {i j : Int} (h1 : okInt i) (h2 : okInt j) : CMulW i j := wide_mul (a := 400) (b := 400) (ok400 h1) (ok400 h2) (by decide) (by decide) (by decide)
def sp__law_less (K : PySem.W.Frag) : Sp := fun vs H Q _ => ∃ (a b : Addr) (x y z u : Int), vs = [.ref a, .ref b] ∧ SqT K H a [.int x, .int y] ∧ SqT K H b [.int z, .int u] ∧ okInt x ∧ okInt y ∧ okInt z ∧ okInt u ∧ ∀ H', Ex H H' → Q (.bl (decide (x * u < z * y))) H'
theorem len__law_less {K : PySem.W.Frag} : ∀ vs H Q E, sp__law_less K vs H Q E → vs.length = 2 := fun vs H Q E ⟨_, _, _, _, _, _, e, _⟩ => by rw [e]; rfl
theorem pure__law_less {K : PySem.W.Frag} {vs : List V} {H : Hp} {Q : VK} {E : XK} (h : sp__law_less K vs H Q E) : t__law_less K { nx := fun _ H' => Q .non H', rt := Q } (start ["_law_one", "_law_other"] vs) H := by
  obtain ⟨a, b, x, y, z, u, rfl, ha, hb, h1, h2, h3, h4, k⟩ := h
  exact s_ret (ev_op (ev_op (ev_op (ev_var rfl) ev_c (rv_ixT ha rfl)) (ev_op (ev_var rfl) ev_c (rv_ixT hb rfl)) (rv_I (okMul h1 h4))) (ev_op (ev_op (ev_var rfl) ev_c (rv_ixT hb rfl)) (ev_op (ev_var rfl) ev_c (rv_ixT ha rfl)) (rv_I (okMul h3 h2))) rv_I0) k
theorem sc__law_less : FnScope ["_law_one", "_law_other"] ["_law_one", "_law_other"] (defScope s__law_less) := ⟨rfl, rfl, rfl, by decide +kernel, rfl, by decide +kernel, by decide +kernel⟩
theorem d__law_less {P : Program} {w : World} {K : PySem.W.Frag} {mg : Str → Option Value} {base : Heap} (T : Txt K mg) {f : Addr} {cdv : Value} {A : Around} {outer : List Env} {s : Shared} {H : Hp} {E : XK} (hr : Room 0 (A.deeper (envOfC "_law_less" (defScope s__law_less) s.heap.objs.size f cdv))) :
    PSs (cxOf CX0 P w K mg base ["_law_one", "_law_other"] "_law_less" (defScope s__law_less) f cdv A outer s H E).nox (defBody s__law_less) (t__law_less K) := by
  have hu := hu_of hr
  exact (pss_one (ps_ret (pe_cmpR op_lt (pe_op op_mulW (pe_ix ix_tup (pv 0) pe_int (fun _ _ => rfl)) (pe_ix ix_tup (pv 1) pe_int (fun _ _ => rfl))) (pe_op op_mulW (pe_ix ix_tup (pv 1) pe_int (fun _ _ => rfl)) (pe_ix ix_tup (pv 0) pe_int (fun _ _ => rfl))) (nomark _))))
theorem ok__law_less {P : Program} {w : World} {K : PySem.W.Frag} {mg : Str → Option Value} {base : Heap} (T : Txt K mg) : FnOk P w K mg base CX0 1 T.l_less.f T.l_less.fd ["_law_one", "_law_other"] (sp__law_less K) :=
  ok0 T.l_less.F sc__law_less len__law_less fun cdv A outer s H vs Q E hr h => ⟨t__law_less K, d__law_less T hr, pure__law_less h⟩
theorem cl__law_less {P : Program} {w : World} {K : PySem.W.Frag} {mg : Str → Option Value} {base : Heap} (T : Txt K mg) : Cl P w K mg base 1 "_law_less" (sp__law_less K) := cl_of T.l_less (ok__law_less T) fun _ _ _ _ _ _ us hl => match us, hl with | [_, _], _ => rfl

end K08

namespace K08
open PySem PySem.Spec PyProof.Rows L2 Evl
/-! ### _law_lowest -/
def t__law_lowest (K : PySem.W.Frag) : TS :=
  (tSeq (tPar 2 3 (tCons (tCB rAbs (tCons (tVar 0) tNil)) (tCons (tVar 1) tNil)))
    (tSeq (tFor (iRng1 (tCons (tC (.int 400)) tNil)) (gName 4)
    (tSeq (tIfS (tTest (tOp rEq (tVar 3) (tC (.int 0)))) tBreak tNext)
    (tPar 2 3 (tCons (tVar 3) (tCons (tOp rModP (tVar 2) (tVar 3)) tNil)))))
    (tRet (tTup (tCons (tOp rDivW (tVar 0) (tCB rMax2 (tCons (tC (.int 1)) (tCons (tVar 2) tNil)))) (tCons (tOp rDivW (tVar 1) (tCB rMax2 (tCons (tC (.int 1)) (tCons (tVar 2) tNil)))) tNil))))))
def sp__law_lowest : Sp := fun vs H Q _ => ∃ p q : Int, vs = [.int p, .int q] ∧ p.natAbs < 10 ^ 60 ∧ 1 ≤ q ∧ q.natAbs < 10 ^ 60 ∧ ∀ t H', H t = none → Ex H H' → H' t = some (.tup [.int (p / (Int.gcd p q : Int)), .int (q / (Int.gcd p q : Int))]) → Q (.ref t) H'
theorem len__law_lowest : ∀ vs H Q E, sp__law_lowest vs H Q E → vs.length = 2 := fun vs H Q E ⟨_, _, e, _⟩ => by rw [e]; rfl
theorem euclid_step {x y i : Nat} (hy : 0 < y) (h : (i = 0 ∧ x < 10 ^ 60 ∧ y < 10 ^ 60) ∨ (∃ k, i = k + 1 ∧ y < x ∧ x * y * 2 ^ k < 10 ^ 120)) : x % y < y ∧ y * (x % y) * 2 ^ i < 10 ^ 120 := by
  have hm := Nat.mod_lt x hy
  refine ⟨hm, ?_⟩
  rcases h with ⟨rfl, h1, h2⟩ | ⟨k, rfl, h1, h2⟩
  · have h3 : x % y ≤ x := Nat.mod_le ..
    calc y * (x % y) * 2 ^ 0 = y * (x % y) := Nat.mul_one _
      _ ≤ y * x := Nat.mul_le_mul_left y h3
      _ < 10 ^ 60 * 10 ^ 60 := Nat.mul_lt_mul'' h2 h1
      _ = 10 ^ 120 := by decide +kernel
  · have h3 : 2 * (x % y) ≤ x := by
      have e := Nat.div_add_mod x y
      have : 1 ≤ x / y := Nat.div_pos (Nat.le_of_lt h1) hy
      have : y * 1 ≤ y * (x / y) := Nat.mul_le_mul_left y this
      omega
    refine Nat.lt_of_le_of_lt ?_ h2
    rw [Nat.pow_succ]
    have : y * (x % y) * (2 ^ k * 2) = y * (2 * (x % y)) * 2 ^ k := by
      rw [Nat.mul_comm (2 ^ k) 2, ← Nat.mul_assoc, Nat.mul_assoc y, Nat.mul_comm (x % y) 2]
    rw [this, Nat.mul_comm x y]
    exact Nat.mul_le_mul_right _ (Nat.mul_le_mul_left y h3)
theorem pure__law_lowest {K : PySem.W.Frag} {vs : List V} {H : Hp} {Q : VK} {E : XK} (h : sp__law_lowest vs H Q E) : t__law_lowest K { nx := fun _ H' => Q .non H', rt := Q } (start ["_law_top", "_law_bottom", "_law_one", "_law_other", "_law_turn"] vs) H := by
  obtain ⟨p, q, rfl, hp, hq, hq6, k⟩ := h
  have hg : 1 ≤ Int.gcd p q := Nat.pos_of_ne_zero fun e => by
    have := (Int.gcd_eq_zero_iff.mp e).2
    omega
  have hg6 : ((Int.gcd p q : Nat) : Int).natAbs < 2 ^ 400 := by
    have : Int.gcd p q ≤ q.natAbs := Nat.gcd_le_right _ (by omega)
    exact Nat.lt_of_le_of_lt this (Nat.lt_trans hq6 (by decide +kernel))
  refine q_par (ev_abs (ev_var rfl)) (ev_var rfl) fun H1 e1 => ?_
  have fin : ∀ (D : Ends) (y v : Option V) H', D.rt = Q → Ex H H' → tRet (tTup (tCons (tOp rDivW (tVar 0) (tCB rMax2 (tCons (tC (.int 1)) (tCons (tVar 2) tNil)))) (tCons (tOp rDivW (tVar 1) (tCB rMax2 (tCons (tC (.int 1)) (tCons (tVar 2) tNil)))) tNil))) D [some (.int p), some (.int q), some (.int (Int.gcd p q : Int)), y, v] H' := by
    intro D y v H' hD e2
    have hmax : ∀ H1, Ev (tCB rMax2 (tCons (tC (.int 1)) (tCons (tVar 2) tNil))) [some (.int p), some (.int q), some (.int (Int.gcd p q : Int)), y, v] H1 (.int (Int.gcd p q : Int)) := fun H1 => ev_is (ev_max2 ev_c (ev_var rfl)) (congrArg V.int (by split <;> omega))
    refine s_retU (eu_tup (ea_cons (ev_op (ev_var rfl) (hmax _) (rv_I (wide_div (by omega) hg6 (by decide) (by decide)))) (ea_cons (ev_op (ev_var rfl) (hmax _) (rv_I (wide_div (by omega) hg6 (by decide) (by decide)))) ea_nil)) (Nat.le_of_ble_eq_true rfl)) fun t H3 ht e3 hx => ?_
    rw [hD]
    exact k t H3 (fresh_back e2 ht) (e2.trans e3) hx
  refine q_forR1 (n := 400) (ea_cons ev_c ea_nil) (by decide) (fun i σ' H' => ∃ (x y : Nat) (v : Option V), σ' = [some (.int p), some (.int q), some (.int x), some (.int y), v] ∧ Ex H H' ∧ Int.gcd (x : Int) y = Int.gcd p q ∧ ((i = 0 ∧ x < 10 ^ 60 ∧ y < 10 ^ 60) ∨ (∃ k, i = k + 1 ∧ y < x ∧ x * y * 2 ^ k < 10 ^ 120)))
    (fun H2 e2 => ⟨p.natAbs, q.natAbs, none, ?_, e1.trans e2, by unfold Int.gcd; rfl, .inl ⟨rfl, hp, hq6⟩⟩) (fun i σ' H' hi p' => ?_) (fun σ' H' p' => ?_)
  · have : ((q.natAbs : Nat) : Int) = q := by omega
    rw [this]
    rfl
  · obtain ⟨x, y, v, rfl, e2, h1, h2⟩ := p'
    refine q_when (et_test (ev_op (ev_var rfl) ev_c (rv_eq rfl))) (fun hb H3 e3 => ?_) (fun hb H3 e3 => ?_)
    · have hy : y = 0 := by
        rw [int_eq_bl] at hb
        have := of_decide_eq_true hb
        omega
      subst hy
      have hx : x = Int.gcd p q := by rw [← h1]; simp
      subst hx
      exact fin _ _ _ _ rfl (e2.trans e3)
    · have hy : 0 < y := by
        rw [int_eq_bl] at hb
        have := of_decide_eq_false hb
        omega
      refine s_par (ev_var rfl) (ev_op (ev_var rfl) (ev_var rfl) (rv_I (by omega))) fun H4 e4 => ?_
      have h5 := euclid_step hy h2
      refine ⟨y, x % y, _, rfl, (e2.trans e3).trans e4, ?_, .inr ⟨i, rfl, h5.1, h5.2⟩⟩
      rw [← h1]
      exact gcd_mod (x : Int) y
  · obtain ⟨x, y, v, rfl, e2, h1, h2⟩ := p'
    have hy : y = 0 := by
      rcases h2 with ⟨h, _⟩ | ⟨k, hk, h3, h4⟩
      · exact absurd h (by decide)
      · have hk' : k = 399 := by
          have : (400 : Int).toNat = 400 := rfl
          omega
        subst hk'
        refine Nat.eq_zero_of_not_pos fun hy => ?_
        have : 1 ≤ x * y := Nat.mul_pos (by omega) hy
        have h6 : 2 ^ 399 ≤ x * y * 2 ^ 399 := Nat.le_mul_of_pos_left _ this
        exact absurd (Nat.lt_of_le_of_lt h6 h4) (by decide +kernel)
    subst hy
    have hx : x = Int.gcd p q := by rw [← h1]; simp
    subst hx
    exact fin _ _ _ _ rfl e2
theorem sc__law_lowest : FnScope ["_law_top", "_law_bottom", "_law_one", "_law_other", "_law_turn"] ["_law_top", "_law_bottom"] (defScope s__law_lowest) := ⟨rfl, rfl, rfl, by decide +kernel, rfl, by decide +kernel, by decide +kernel⟩
theorem d__law_lowest {P : Program} {w : World} {K : PySem.W.Frag} {mg : Str → Option Value} {base : Heap} (T : Txt K mg) {f : Addr} {cdv : Value} {A : Around} {outer : List Env} {s : Shared} {H : Hp} {E : XK} (hr : Room 0 (A.deeper (envOfC "_law_lowest" (defScope s__law_lowest) s.heap.objs.size f cdv))) :
    PSs (cxOf CX0 P w K mg base ["_law_top", "_law_bottom", "_law_one", "_law_other", "_law_turn"] "_law_lowest" (defScope s__law_lowest) f cdv A outer s H E).nox (defBody s__law_lowest) (t__law_lowest K) := by
  have hu := hu_of hr
  exact (pss_cons (ps_par (i := 2) (j := 3) (by rfl) sc__law_lowest.nd rfl rfl (by decide) rfl rfl (pa_cons (pe_callB call_abs (by rfl) T.b_abs (by decide +kernel) (pa_cons (pv 0) pa_nil)) (pa_cons (pv 1) pa_nil)) (by rfl))
      (pss_cons (ps_for PassesOwn.never rfl (pi_range1 rfl T.b_range (pa_cons pe_int pa_nil)) (pg_name (i := 4) sc__law_lowest.nd rfl (Or.inl rfl))
      (pss_cons (ps_if (pt_cmpR op_eq (pv 3) pe_int (nomark _)) (pss_one ps_break) pss_nil)
      (pss_one (ps_par (i := 2) (j := 3) (by rfl) sc__law_lowest.nd rfl rfl (by decide) rfl rfl (pa_cons (pv 3) (pa_cons (pe_op op_mod (pv 2) (pv 3)) pa_nil)) (by rfl)))))
      (pss_one (ps_ret (pe_tup (pa_cons (pe_op op_fdivW (pv 0) (pe_callB (call_max2 rfl) (by rfl) T.b_max (by decide +kernel) (pa_cons pe_int (pa_cons (pv 2) pa_nil)))) (pa_cons (pe_op op_fdivW (pv 1) (pe_callB (call_max2 rfl) (by rfl) T.b_max (by decide +kernel) (pa_cons pe_int (pa_cons (pv 2) pa_nil)))) pa_nil)))))))
theorem ok__law_lowest {P : Program} {w : World} {K : PySem.W.Frag} {mg : Str → Option Value} {base : Heap} (T : Txt K mg) : FnOk P w K mg base CX0 1 T.l_lowest.f T.l_lowest.fd ["_law_top", "_law_bottom"] (sp__law_lowest) :=
  ok0 T.l_lowest.F sc__law_lowest len__law_lowest fun cdv A outer s H vs Q E hr h => ⟨t__law_lowest K, d__law_lowest T hr, pure__law_lowest h⟩
theorem cl__law_lowest {P : Program} {w : World} {K : PySem.W.Frag} {mg : Str → Option Value} {base : Heap} (T : Txt K mg) : Cl P w K mg base 1 "_law_lowest" sp__law_lowest := cl_of T.l_lowest (ok__law_lowest T) fun _ _ _ _ _ _ us hl => match us, hl with | [_, _], _ => rfl

/-! ### _law_ratio_text -/
def t__law_ratio_text (K : PySem.W.Frag) : TS :=
  (tRet (tIf (tTest (tOp rEq (tOp (rIxT K) (tVar 0) (tC (.int 1))) (tC (.int 1)))) (tCB rStrInt (tCons (tOp (rIxT K) (tVar 0) (tC (.int 0))) tNil)) (tOp rCatS (tOp rCatS (tCB rStrInt (tCons (tOp (rIxT K) (tVar 0) (tC (.int 0))) tNil)) (tC (.str "/"))) (tCB rStrInt (tCons (tOp (rIxT K) (tVar 0) (tC (.int 1))) tNil)))))
def sp__law_ratio_text (K : PySem.W.Frag) : Sp := fun vs H Q _ => ∃ (a : Addr) (p q : Int), vs = [.ref a] ∧ SqT K H a [.int p, .int q] ∧ okInt p ∧ okInt q ∧ ∀ H', Ex H H' → Q (.str (ratText p q)) H'
theorem len__law_ratio_text {K : PySem.W.Frag} : ∀ vs H Q E, sp__law_ratio_text K vs H Q E → vs.length = 1 := fun vs H Q E ⟨_, _, _, e, _⟩ => by rw [e]; rfl
theorem pure__law_ratio_text {K : PySem.W.Frag} {vs : List V} {H : Hp} {Q : VK} {E : XK} (h : sp__law_ratio_text K vs H Q E) : t__law_ratio_text K { nx := fun _ H' => Q .non H', rt := Q } (start ["_law_pair"] vs) H := by
  obtain ⟨a, p, q, rfl, ha, hp, hq, k⟩ := h
  have l1 := okInt_len hp
  have l2 := okInt_len hq
  have e0 : ∀ n : Int, (toString n : Str) = toS n := fun _ => rfl
  refine s_ret (v := .str (ratText p q)) (ev_if (et_test (ev_op (ev_op (ev_var rfl) ev_c (rv_ixT ha rfl)) ev_c (rv_eq rfl))) (fun hb => ?_) (fun hb => ?_)) k
  · rw [int_eq_bl] at hb
    refine ev_is (ev_strI (ev_op (ev_var rfl) ev_c (rv_ixT ha rfl)) (okInt_log hp)) ?_
    rw [ratText, if_pos (of_decide_eq_true hb)]
  · rw [int_eq_bl] at hb
    refine ev_is (ev_op (ev_op (ev_strI (ev_op (ev_var rfl) ev_c (rv_ixT ha rfl)) (okInt_log hp)) ev_c (rv_catS ?_)) (ev_strI (ev_op (ev_var rfl) ev_c (rv_ixT ha rfl)) (okInt_log hq)) (rv_catS ?_)) ?_
    · show (toS p).length + 1 ≤ _
      omega
    · show (toS p ++ "/").length + (toS q).length ≤ _
      rw [len_app]
      show (toS p).length + 1 + (toS q).length ≤ _
      omega
    · rw [ratText, if_neg (of_decide_eq_false hb)]
      exact congrArg V.str (app_assoc _ _ _)
theorem sc__law_ratio_text : FnScope ["_law_pair"] ["_law_pair"] (defScope s__law_ratio_text) := ⟨rfl, rfl, rfl, by decide +kernel, rfl, by decide +kernel, by decide +kernel⟩
theorem d__law_ratio_text {P : Program} {w : World} {K : PySem.W.Frag} {mg : Str → Option Value} {base : Heap} (T : Txt K mg) {f : Addr} {cdv : Value} {A : Around} {outer : List Env} {s : Shared} {H : Hp} {E : XK} (hr : Room 0 (A.deeper (envOfC "_law_ratio_text" (defScope s__law_ratio_text) s.heap.objs.size f cdv))) :
    PSs (cxOf CX0 P w K mg base ["_law_pair"] "_law_ratio_text" (defScope s__law_ratio_text) f cdv A outer s H E).nox (defBody s__law_ratio_text) (t__law_ratio_text K) := by
  have hu := hu_of hr
  exact (pss_one (ps_ret (pe_ifExp (pt_cmpR op_eq (pe_ix ix_tup (pv 0) pe_int (fun _ _ => rfl)) pe_int (nomark _)) (pe_callTy call_str_int (by rfl) T.b_str (by decide +kernel) (pa_cons (pe_ix ix_tup (pv 0) pe_int (fun _ _ => rfl)) pa_nil)) (pe_op op_add_str (pe_op op_add_str (pe_callTy call_str_int (by rfl) T.b_str (by decide +kernel) (pa_cons (pe_ix ix_tup (pv 0) pe_int (fun _ _ => rfl)) pa_nil)) pe_str) (pe_callTy call_str_int (by rfl) T.b_str (by decide +kernel) (pa_cons (pe_ix ix_tup (pv 0) pe_int (fun _ _ => rfl)) pa_nil))))))
theorem ok__law_ratio_text {P : Program} {w : World} {K : PySem.W.Frag} {mg : Str → Option Value} {base : Heap} (T : Txt K mg) : FnOk P w K mg base CX0 1 T.l_ratio_text.f T.l_ratio_text.fd ["_law_pair"] (sp__law_ratio_text K) :=
  ok0 T.l_ratio_text.F sc__law_ratio_text len__law_ratio_text fun cdv A outer s H vs Q E hr h => ⟨t__law_ratio_text K, d__law_ratio_text T hr, pure__law_ratio_text h⟩
theorem cl__law_ratio_text {P : Program} {w : World} {K : PySem.W.Frag} {mg : Str → Option Value} {base : Heap} (T : Txt K mg) : Cl P w K mg base 1 "_law_ratio_text" (sp__law_ratio_text K) := cl_of T.l_ratio_text (ok__law_ratio_text T) fun _ _ _ _ _ _ us hl => match us, hl with | [_], _ => rfl

end K08

namespace K08
open PySem PySem.Spec PyProof.Rows L2 Evl
/-! ### lists of texts compared; strip -/
section
variable {K : PySem.W.Frag} {σ : L2.St} {H : Hp} {ta tb : TE} {l m : List Str}
theorem dp_lst {H : Hp} {p : Addr} {l : List Str} (h : H p = some (.lst (l.map V.str))) : Dp K H (.ref p) (.list (l.map PyData.str)) := .lst (SqL.of h) (dpAll_strs l)
theorem ev_eqLst (ha : EvW ta σ H (l.map V.str)) (hb : EvW tb σ H (m.map V.str)) (h1 : ∀ z ∈ l, PyData.strOk z = true) (h2 : ∀ z ∈ m, PyData.strOk z = true) : Ev (tOp (rEqD K) ta tb) σ H (.bl (decide (l = m))) := fun H1 e Q q =>
  ha H1 e _ fun p H2 e2 hp => hb H2 (e.trans e2) _ fun r H3 e3 hr => ⟨_, _, dp_lst (e3 _ _ hp), dp_lst hr, shaped_lst h1, shaped_lst h2, by
    rw [show PyData.eqv (.list (l.map PyData.str)) (.list (m.map PyData.str)) = decide (l = m) by rw [PyData.eqv]; exact eqvAll_strs l m]
    exact q H3 (e2.trans e3)⟩
theorem ev_neLst (ha : EvW ta σ H (l.map V.str)) (hb : EvW tb σ H (m.map V.str)) (h1 : ∀ z ∈ l, PyData.strOk z = true) (h2 : ∀ z ∈ m, PyData.strOk z = true) : Ev (tOp (rNeD K) ta tb) σ H (.bl (!decide (l = m))) := fun H1 e Q q =>
  ha H1 e _ fun p H2 e2 hp => hb H2 (e.trans e2) _ fun r H3 e3 hr => ⟨_, _, dp_lst (e3 _ _ hp), dp_lst hr, shaped_lst h1, shaped_lst h2, by
    rw [show PyData.eqv (.list (l.map PyData.str)) (.list (m.map PyData.str)) = decide (l = m) by rw [PyData.eqv]; exact eqvAll_strs l m]
    exact q H3 (e2.trans e3)⟩
theorem el_nilS : EvL (tLst tNil) σ H (([] : List Str).map V.str) := el_lst ea_nil (by decide)
theorem ok_nil : ∀ z ∈ ([] : List Str), PyData.strOk z = true := fun _ h => nomatch h
end
theorem all_takeWhile {p : Nat → Bool} : ∀ {l : List Nat}, (l.takeWhile p).length = l.length → l.all p = true
  | [], _ => rfl
  | c :: r, h => by
    rw [List.takeWhile_cons] at h
    split at h
    · rename_i hc
      rw [List.all_cons, hc, all_takeWhile (l := r) (by simpa using h)]
      rfl
    · simp at h
theorem takeWhile_le {p : Nat → Bool} : ∀ (l : List Nat), (l.takeWhile p).length ≤ l.length
  | [] => Nat.le_refl _
  | c :: r => by
    rw [List.takeWhile_cons]
    split
    · exact Nat.succ_le_succ (takeWhile_le r)
    · exact Nat.zero_le _
theorem takeWhile_of {p : Nat → Bool} : ∀ {l : List Nat}, l.all p = true → l.takeWhile p = l
  | [], _ => rfl
  | c :: r, h => by
    rw [List.all_cons, Bool.and_eq_true] at h
    rw [List.takeWhile_cons, if_pos h.1, takeWhile_of h.2]
theorem all_split {p : Nat → Bool} : ∀ {l : List Nat}, (l.drop (l.takeWhile p).length).all p = true → l.all p = true
  | [], _ => rfl
  | c :: r, h => by
    rw [List.takeWhile_cons] at h
    by_cases hc : p c = true
    · rw [if_pos hc] at h
      rw [List.all_cons, hc, all_split (l := r) (by simpa using h)]
      rfl
    · rw [if_neg hc] at h
      exact h
open PySem.Builtin PySem.Builtin.Str in
theorem strip_empty (x y : Str) : decide (Txt.stripChars x y = Str.empty) = (TL.tl x).all y.cps.contains := by
  have e1 : Txt.stripChars x y = _ := PyProof.Rows.stripBy_eq y.cps.contains true true x
  have hl := tl_len x
  rw [e1]
  unfold stripLo stripHi
  simp only [if_true]
  show decide (strSub x ((TL.tl x).takeWhile y.cps.contains).length (x.length - (((TL.tl x).drop ((TL.tl x).takeWhile y.cps.contains).length).reverse.takeWhile y.cps.contains).length) = _) = _
  generalize hp : y.cps.contains = p
  have le1 := takeWhile_le (p := p) (TL.tl x)
  have le2 := takeWhile_le (p := p) ((TL.tl x).drop ((TL.tl x).takeWhile p).length).reverse
  rw [List.length_reverse, List.length_drop] at le2
  cases h : (TL.tl x).all p with
  | true =>
    rw [takeWhile_of h, List.drop_length]
    refine decide_eq_true ?_
    apply TL.ext_tl
    show (x.cps.extract _ _).toList = []
    rw [Array.toList_extract]
    simp [List.extract]
  | false =>
    refine decide_eq_false fun hc => ?_
    have h2 : (strSub x ((TL.tl x).takeWhile p).length (x.length - (((TL.tl x).drop ((TL.tl x).takeWhile p).length).reverse.takeWhile p).length)).length = 0 := by rw [hc]; rfl
    simp only [strSub, Str.length, Array.size_extract] at h2
    have h3 : x.cps.size = (TL.tl x).length := hl
    rw [h3] at h2
    have h4 := all_takeWhile (p := p) (l := ((TL.tl x).drop ((TL.tl x).takeWhile p).length).reverse) (by rw [List.length_reverse, List.length_drop]; omega)
    rw [List.all_reverse] at h4
    rw [all_split h4] at h
    cases h
theorem strip_all (x y : Str) : decide (V.str (Txt.stripChars x y) = V.str Str.empty) = (TL.tl x).all fun c => decide (c ∈ TL.tl y) := by
  rw [str_eq_bl, strip_empty]
  congr 1
  funext c
  have : y.cps.contains c = y.cps.toList.contains c := by simp
  rw [this, List.contains_eq_mem]

/-! ### _law_is_name -/
def t__law_is_name (K : PySem.W.Frag) : TS :=
  (tRet (tAndV (tOp rEq (tM1 rStripC (tVar 0) (tC (.str "abcdefghijklmnopqrstuvwxyz"))) (tC (.str ""))) (tChain rLeI rLeI (tC (.int 1)) (tCB rLenStr (tCons (tVar 0) tNil)) (tC (.int 8)))))
abbrev sp__law_is_name : Sp := sp_is_name
theorem len__law_is_name : ∀ vs H Q E, sp__law_is_name vs H Q E → vs.length = 1 := fun vs H Q E ⟨_, e, _⟩ => by rw [e]; rfl
theorem pure__law_is_name {K : PySem.W.Frag} {vs : List V} {H : Hp} {Q : VK} {E : XK} (h : sp__law_is_name vs H Q E) : t__law_is_name K { nx := fun _ H' => Q .non H', rt := Q } (start ["_law_word"] vs) H := by
  obtain ⟨z, rfl, hz, q⟩ := h
  refine s_ret (v := .bl (isName z)) (ev_is (ev_andV (ev_op (ev_stripC (ev_var rfl) ev_c (by omega)) ev_c (rv_eq rfl)) fun _ => ev_chain ev_c (ev_lenS (ev_var rfl) (by omega)) rv_I0 (fun _ => ev_c) fun _ => rv_I0) ?_) q
  rw [show (V.str ("" : Str)) = V.str Str.empty from rfl, strip_all]
  unfold isName
  congr 1
  rw [Bool.and_comm]
  congr 1
  rw [← Bool.decide_and]
  exact decide_eq_decide.mpr ⟨fun h => ⟨by omega, by omega⟩, fun h => ⟨by omega, by omega⟩⟩
theorem sc__law_is_name : FnScope ["_law_word"] ["_law_word"] (defScope s__law_is_name) := ⟨rfl, rfl, rfl, by decide +kernel, rfl, by decide +kernel, by decide +kernel⟩
theorem d__law_is_name {P : Program} {w : World} {K : PySem.W.Frag} {mg : Str → Option Value} {base : Heap} (T : Txt K mg) {f : Addr} {cdv : Value} {A : Around} {outer : List Env} {s : Shared} {H : Hp} {E : XK} (hr : Room 0 (A.deeper (envOfC "_law_is_name" (defScope s__law_is_name) s.heap.objs.size f cdv))) :
    PSs (cxOf CX0 P w K mg base ["_law_word"] "_law_is_name" (defScope s__law_is_name) f cdv A outer s H E).nox (defBody s__law_is_name) (t__law_is_name K) := by
  have hu := hu_of hr
  exact (pss_one (ps_ret (pe_and (pe_cmpR op_eq (pe_stripC (pv 0) pe_str) pe_str (nomark _)) (pe_one (pe_chain op_le op_le pe_int (pe_callB call_len_str (by rfl) T.b_len (by decide +kernel) (pa_cons (pv 0) pa_nil)) pe_int)))))
theorem ok__law_is_name {P : Program} {w : World} {K : PySem.W.Frag} {mg : Str → Option Value} {base : Heap} (T : Txt K mg) : FnOk P w K mg base CX0 1 T.l_is_name.f T.l_is_name.fd ["_law_word"] (sp__law_is_name) :=
  ok0 T.l_is_name.F sc__law_is_name len__law_is_name fun cdv A outer s H vs Q E hr h => ⟨t__law_is_name K, d__law_is_name T hr, pure__law_is_name h⟩
theorem cl__law_is_name {P : Program} {w : World} {K : PySem.W.Frag} {mg : Str → Option Value} {base : Heap} (T : Txt K mg) : Cl P w K mg base 1 "_law_is_name" sp__law_is_name := cl_of T.l_is_name (ok__law_is_name T) fun _ _ _ _ _ _ us hl => match us, hl with | [_], _ => rfl

/-! ### _law_are_names -/
def t__law_are_names (K : PySem.W.Frag)(w : World) : TS :=
  (tRet (tAndV (tOp (rNeD K) (tVar 0) (tLst tNil)) (tAndV (tOp (rEqD K) (tLc (iList K (tVar 0)) (gName 1) (tNot (tB (tCl sp__law_is_name (tCons (tVar 1) tNil)))) (tVar 1) [1]) (tLst tNil)) (tOp (rEqD K) (tVar 0) (tCB (rSortT w) (tCons (tCB (rSetT K w) (tCons (tVar 0) tNil)) tNil))))))
def lawNames (l : List Str) : Bool := !decide (l = []) && areNames l
theorem asc_zip (l : List Str) : ascS l = decide (l = setSort l) := by
  by_cases h : Asc l
  · rw [asc_iff.mpr h, setSort_asc h, decide_eq_true rfl]
  · rw [decide_eq_false fun e => h (by rw [e]; exact asc_setSort l)]
    cases h' : ascS l with
    | false => rfl
    | true => exact absurd (asc_iff.mp h') h
def sp__law_are_names (K : PySem.W.Frag) : Sp := fun vs H Q _ => ∃ (a : Addr) (l : List Str), vs = [.ref a] ∧ H a = some (.lst (l.map V.str)) ∧ l.length < 64 ∧ (∀ z ∈ l, z.length ≤ 40000 ∧ PyData.strOk z = true) ∧ ∀ H', Ex H H' → Q (.bl (lawNames l)) H'
theorem len__law_are_names {K : PySem.W.Frag} : ∀ vs H Q E, sp__law_are_names K vs H Q E → vs.length = 1 := fun vs H Q E ⟨_, _, e, _⟩ => by rw [e]; rfl
theorem filter_nil {l : List Str} : decide (l.filter (fun z => !isName z) = []) = l.all isName := by
  induction l with
  | nil => rfl
  | cons x r ih =>
    rw [List.filter_cons, List.all_cons]
    cases h : isName x with
    | true => simpa using ih
    | false => rfl
theorem pure__law_are_names {K : PySem.W.Frag} {w : World} {vs : List V} {H : Hp} {Q : VK} {E : XK} (h : sp__law_are_names K vs H Q E) : t__law_are_names K w { nx := fun _ H' => Q .non H', rt := Q } (start ["_law_words", "_law_word"] vs) H := by
  obtain ⟨a, l, rfl, ha, hl, hz, q⟩ := h
  have ok : ∀ z ∈ l, PyData.strOk z = true := fun z hm => (hz z hm).2
  refine s_ret (v := .bl (lawNames l)) (ev_is (ev_andV (ev_neLst (ew_old (ev_var rfl) ha) (ew_new el_nilS) ok ok_nil) fun _ => ev_andV (b := _) (ev_eqLst (l := l.filter fun z => !isName z) (ew_new ?_) (ew_new el_nilS) (fun z hm => ok z ((List.mem_filter.mp hm).1)) ok_nil)
    fun _ => ev_eqLst (ew_old (ev_var rfl) ha) (ew_new (el_sortSet (ev_var rfl) (SqL.of ha) (by omega))) ok fun z hm => ok z (mem_setSort.mp hm)) ?_) q
  · have em : ((l.filter fun z => !isName z).map V.str) = ((l.map V.str).filter fun v => !isName (strOf v)).map id := by
      rw [List.map_id, List.filter_map]
      rfl
    rw [em]
    refine el_filter (fun v => !isName (strOf v)) id (src_list (ev_var rfl) (SqL.of ha)) (by rw [List.length_map]; omega) (fun _ => rfl) (fun x H3 e3 hx => ?_) fun x H3 e3 hx _ => ev_var rfl
    obtain ⟨z, hm, rfl⟩ := List.mem_map.mp hx
    exact et_not (et_B (ev_cl (ea_cons (ev_var rfl) ea_nil) (spv_is_name (hz z hm).1)))
  · rw [filter_nil, ← asc_zip]
    rfl
theorem sc__law_are_names : FnScope ["_law_words", "_law_word"] ["_law_words"] (defScope s__law_are_names) := ⟨rfl, rfl, rfl, by decide +kernel, rfl, by decide +kernel, by decide +kernel⟩
theorem d__law_are_names {P : Program} {w : World} {K : PySem.W.Frag} {mg : Str → Option Value} {base : Heap} (T : Txt K mg) {f : Addr} {cdv : Value} {A : Around} {outer : List Env} {s : Shared} {H : Hp} {E : XK} (hr : Room 1 (A.deeper (envOfC "_law_are_names" (defScope s__law_are_names) s.heap.objs.size f cdv))) :
    PSs (cxOf CX0 P w K mg base ["_law_words", "_law_word"] "_law_are_names" (defScope s__law_are_names) f cdv A outer s H E).nox (defBody s__law_are_names) (t__law_are_names K w) := by
  have hu := hu_of hr
  exact (pss_one (ps_ret (pe_and (pe_cmpR (op_neD hr.units) (pv 0) (pe_lst pa_nil) (nomark _)) (pe_and (pe_cmpR (op_eqD hr.units) (pe_lc (own := [("_law_word", 1)]) rfl sc__law_are_names.nd (pi_list (pv 0)) (blkOk_by (own := [("_law_word", 1)]) (N := ["_law_words", "_law_word"]) (sc := defScope s__law_are_names) (by decide +kernel)) (fun _ _ _ _ _ => (pg_name (i := 1) sc__law_are_names.nd rfl (Or.inl rfl))) (fun _ _ _ _ _ => (pts_one (pt_not (pt_val (pe_cl (cl__law_is_name T) hr (pa_cons (pv 1) pa_nil)))))) (fun _ _ _ _ _ => (pv 1))) (pe_lst pa_nil) (nomark _)) (pe_one (pe_cmpR (op_eqD hr.units) (pv 0) (pe_callB (cr_sortT rfl) (by rfl) T.b_sorted (by decide +kernel) (pa_cons (pe_callTy (cr_setT rfl) (by rfl) T.b_set (by decide +kernel) (pa_cons (pv 0) pa_nil)) pa_nil)) (nomark _)))))))
theorem ok__law_are_names {P : Program} {w : World} {K : PySem.W.Frag} {mg : Str → Option Value} {base : Heap} (T : Txt K mg) : FnOk P w K mg base CX0 2 T.l_are_names.f T.l_are_names.fd ["_law_words"] (sp__law_are_names K) :=
  ok0 T.l_are_names.F sc__law_are_names len__law_are_names fun cdv A outer s H vs Q E hr h => ⟨t__law_are_names K w, d__law_are_names T hr, pure__law_are_names h⟩
theorem cl__law_are_names {P : Program} {w : World} {K : PySem.W.Frag} {mg : Str → Option Value} {base : Heap} (T : Txt K mg) : Cl P w K mg base 2 "_law_are_names" (sp__law_are_names K) := cl_of T.l_are_names (ok__law_are_names T) fun _ _ _ _ _ _ us hl => match us, hl with | [_], _ => rfl

end K08

namespace K08
open PySem PySem.Spec PyProof.Rows L2 Evl
/-! ### what the law's reading of a ratio's text makes of it (plain) -/
theorem tl_toS (p : Int) : TL.tl (toS p) = if p < 0 then 45 :: TL.numL p.natAbs else TL.numL p.natAbs := by
  rcases int_two p with ⟨k, rfl⟩ | ⟨k, rfl⟩
  · rw [if_neg (by omega), tl_toS_nat]
    rfl
  · rw [if_pos (by omega), tl_toS_neg]
    congr 1
theorem numL_45 (n : Nat) : ∃ c r, TL.numL n = c :: r ∧ c ≠ 45 := by
  cases h : TL.numL n with
  | nil => exact absurd h (TL.numL_ne n)
  | cons c r =>
    refine ⟨c, r, rfl, fun e => ?_⟩
    have := numL_dig (n := n) (c := c) (by rw [h]; exact List.mem_cons_self)
    omega
theorem tl_rat (p q : Int) : TL.tl (ratText p q) = TL.tl (toS p) ++ (if q = 1 then [] else 47 :: TL.tl (toS q)) := by
  unfold ratText
  split
  · rw [List.append_nil]
  · rw [TL.tl_append, TL.tl_append, tl_slash]
    rfl
theorem rat_neg {t : Str} {p q : Int} (h : t = ratText p q) : isNeg t = decide (p < 0) ∧ TL.tl (figS t) = TL.numL p.natAbs ++ (if q = 1 then [] else 47 :: TL.tl (toS q)) := by
  subst h
  rw [tl_fig]
  unfold isNeg
  rw [tl_rat, tl_toS]
  obtain ⟨c, r, e, hc⟩ := numL_45 p.natAbs
  by_cases hp : p < 0
  · rw [if_pos hp, decide_eq_true hp, List.cons_append]
    exact ⟨rfl, rfl⟩
  · rw [if_neg hp, decide_eq_false hp, e, List.cons_append]
    constructor
    · split
      · rename_i h
        exact absurd (List.cons.inj h).1 hc
      · rfl
    · exact figL_pos fun r' e' => hc (List.cons.inj e').1
theorem split_slash (x : Str) : (Txt.split x "/").map TL.tl = TL.spl [47] 0 [] (TL.tl x) := by
  rw [TL.split_spl x "/" (by rw [tl_slash]; decide) (TL.kind_ok (by decide +kernel)), tl_slash]
theorem rat_split {t : Str} {p q : Int} (h : t = ratText p q) (hq : 1 ≤ q) : Txt.split (figS t) "/" = if q = 1 then [toS (p.natAbs : Int)] else [toS (p.natAbs : Int), toS q] := by
  apply TL.map_tl_inj
  rw [split_slash, (rat_neg h).2]
  have f1 : 47 ∉ TL.numL p.natAbs := TL.numL_free (by decide)
  split
  · rw [List.append_nil, TL.spl_last1 f1]
    rw [List.map_cons, tl_toS_nat]
    rfl
  · have e := TL.spl_part1 (s := 47) (S := []) (p := TL.numL p.natAbs) (rest := TL.tl (toS q)) (acc := []) f1
    rw [show ([47] ++ TL.tl (toS q)) = 47 :: TL.tl (toS q) from rfl] at e
    rw [e, TL.spl_last1 (toS_slash q)]
    rw [List.map_cons, List.map_cons, tl_toS_nat]
    rfl
theorem spl_ne (S : List Nat) : ∀ (l : List Nat) (k : Nat) (acc : List Nat), TL.spl S k acc l ≠ []
  | [], k, acc => by rw [TL.spl_nil]; exact List.cons_ne_nil _ _
  | c :: r, 0, acc => by
    cases h : TL.pre S (c :: r) with
    | true => rw [TL.spl_hit h]; exact List.cons_ne_nil _ _
    | false => rw [TL.spl_miss h]; exact spl_ne S r 0 _
  | c :: r, k + 1, acc => spl_ne S r k acc
theorem split_ne (x : Str) : Txt.split x "/" ≠ [] := fun h => by
  have e := split_slash x
  rw [h] at e
  exact spl_ne _ _ _ _ e.symm
theorem split_len (x : Str) : ∀ w ∈ Txt.split x "/", w.length ≤ x.length := fun w hw =>
  ((split_parts (x := x) (y := "/") (by rw [tl_slash]; decide) (TL.kind_ok (by decide +kernel))).2 w hw).1
theorem split_many (x : Str) : (Txt.split x "/").length ≤ x.length + 1 := (split_parts (x := x) (y := "/") (by rw [tl_slash]; decide) (TL.kind_ok (by decide +kernel))).1
/-- the number of a text of figures -/
def dv (a : Str) : Int := ((NumText.digitsVal (TL.tl a) : Nat) : Int)
theorem dv_num (n : Nat) : dv (toS (n : Int)) = (n : Int) := by
  unfold dv
  rw [tl_toS_nat, TL.numL_val]
theorem dv_lt {a : Str} (h : digL (TL.tl a) = true) (hz : a.length ≤ 60) : (dv a).natAbs < 10 ^ 60 ∧ 0 ≤ dv a := by
  have := digitsVal_lt (digL_all h).1
  refine ⟨Nat.lt_of_lt_of_le this (Nat.pow_le_pow_right (by decide) (by rw [← tl_len]; exact hz)), Int.natCast_nonneg _⟩
theorem dv_int {a : Str} (h : digL (TL.tl a) = true) (hz : a.length ≤ 60) : intText? a = some (dv a) := intText_digits (x := a) (digL_all h).1 (digL_all h).2 (by omega)
theorem dig_toS (n : Nat) : digL (TL.tl (toS (n : Int))) = true := by
  rw [tl_toS_nat]
  exact digL_num n
/-- a part that is no number -/
def badW (w : Str) : Bool := !((TL.tl w).all fun c => decide (c ∈ TL.tl ("0123456789" : Str))) || decide (w = Str.empty)
theorem badW_dig (w : Str) : badW w = !digL (TL.tl w) := by
  unfold badW digL
  have e1 : ((TL.tl w).all fun c => decide (c ∈ TL.tl ("0123456789" : Str))) = (TL.tl w).all fun c => decide (48 ≤ c ∧ c ≤ 57) := by
    congr 1
    funext c
    exact fig_in c
  rw [e1]
  have e2 : decide (w = Str.empty) = (TL.tl w).isEmpty := by
    cases h : TL.tl w with
    | nil => exact decide_eq_true (TL.ext_tl h)
    | cons c r => exact decide_eq_false fun e => by rw [e] at h; cases h
  rw [e2]
  cases (TL.tl w).isEmpty <;> simp

/-! ### _law_ratio -/
def t__law_ratio (K : PySem.W.Frag) : TS :=
  (tSeq (tPar 1 2 (tCons (tM1 rSplit (tVar 0) (tC (.str "/"))) (tCons (tC (.int 1)) tNil)))
    (tSeq (tIfS (tTest (tOp rEq (L2.tSl rSlS (tVar 0) tNoPart (tPart (tC (.int 1)))) (tC (.str "-")))) (tPar 1 2 (tCons (tM1 rSplit (L2.tSl rSlS (tVar 0) (tPart (tC (.int 1))) tNoPart) (tC (.str "/"))) (tCons (tOp rMinus (tC (.int 0)) (tC (.int 1))) tNil))) tNext)
    (tSeq (tIfS (tOr (tTest (tOp rGtI (tCB (rLenS K) (tCons (tVar 1) tNil)) (tC (.int 2)))) (tTest (tOp (rNeD K) (tLc (iList K (tVar 1)) (gName 3) (tOr (tTest (tOp rNe (tM1 rStripC (tVar 3) (tC (.str "0123456789"))) (tC (.str "")))) (tTest (tOp rEq (tVar 3) (tC (.str ""))))) (tVar 3) [3]) (tLst tNil)))) (tRet (tC .non)) tNext)
    (tSeq (tAsg (tTup (tCons (tOp rTimesW (tVar 2) (tCB rIntStr (tCons (tOp (rIxL K) (tVar 1) (tC (.int 0))) tNil))) (tCons (tIf (tTest (tOp rEq (tCB (rLenS K) (tCons (tVar 1) tNil)) (tC (.int 2)))) (tCB rIntStr (tCons (tOp (rIxL K) (tVar 1) (tC (.int 1))) tNil)) (tC (.int 1))) tNil))) (gName 4))
    (tSeq (tIfS (tOr (tTest (tOp rEq (tOp (rIxT K) (tVar 4) (tC (.int 1))) (tC (.int 0)))) (tOr (tTest (tOp (rNeD K) (tCl sp__law_lowest (tCons (tOp (rIxT K) (tVar 4) (tC (.int 0))) (tCons (tOp (rIxT K) (tVar 4) (tC (.int 1))) tNil))) (tVar 4))) (tTest (tOp rNe (tCl (sp__law_ratio_text K) (tCons (tVar 4) tNil)) (tVar 0))))) (tRet (tC .non)) tNext)
    (tRet (tVar 4)))))))
def sndV : List Str → Int
  | [] => 1
  | b :: _ => dv b
def lawR (H : Hp) (v : V) : Option (Int × Int) → Prop
  | none => v = .non
  | some z => pairR H v z
def sp__law_ratio (K : PySem.W.Frag) : Sp := fun vs H Q _ => ∃ t : Str, vs = [.str t] ∧ t.length ≤ 60 ∧ PyData.strOk t = true ∧ ∀ v H', Ex H H' → lawR H' v (ratOf t) → Q v H'
theorem len__law_ratio {K : PySem.W.Frag} : ∀ vs H Q E, sp__law_ratio K vs H Q E → vs.length = 1 := fun vs H Q E ⟨_, e, _⟩ => by rw [e]; rfl
theorem q_parL1 {σ : L2.St} {H : Hp} {i j : Nat} {ta tb : TE} {xs : List V} {y : V} {D : Ends} {tz : TS} (ha : EvL ta σ H xs) (hb : Ev tb σ H y) (k : ∀ p H1, H p = none → Ex H H1 → H1 p = some (.lst xs) → tz D ((σ.set i (some (.ref p))).set j (some y)) H1) : tSeq (tPar i j (tCons ta (tCons tb tNil))) tz D σ H :=
  ha H (Ex.refl H) _ fun p H1 hp e1 h1 => hb H1 e1 _ fun H2 e2 => ⟨.ref p, y, rfl, k p H2 hp (e1.trans e2) (e2 _ _ h1)⟩
theorem s_parL1 {σ : L2.St} {H : Hp} {i j : Nat} {ta tb : TE} {xs : List V} {y : V} {D : Ends} (ha : EvL ta σ H xs) (hb : Ev tb σ H y) (k : ∀ p H1, H p = none → Ex H H1 → H1 p = some (.lst xs) → D.nx ((σ.set i (some (.ref p))).set j (some y)) H1) : tPar i j (tCons ta (tCons tb tNil)) D σ H :=
  ha H (Ex.refl H) _ fun p H1 hp e1 h1 => hb H1 e1 _ fun H2 e2 => ⟨.ref p, y, rfl, k p H2 hp (e1.trans e2) (e2 _ _ h1)⟩
theorem shaped_pair (p q : Int) : SeqAt.shaped (.tuple [.int p, .int q]) = true := rfl
theorem eqv_pair (p q p' q' : Int) : PyData.eqv (.tuple [.int p, .int q]) (.tuple [.int p', .int q']) = (decide (p = p') && decide (q = q')) := by
  rw [PyData.eqv, PyData.eqvAll, PyData.eqvAll, PyData.eqvAll]
  simp [PyData.eqv]
  rfl
theorem ev_neLow {K : PySem.W.Frag} {σ : L2.St} {H : Hp} {ta : TA} {tb : TE} {a : Addr} {u v : Int} (ha : EvA ta σ H [.int u, .int v]) (hb : Ev tb σ H (.ref a)) (hT : SqT K H a [.int u, .int v]) (hu : u.natAbs < 10 ^ 60) (h1 : 1 ≤ v) (hv : v.natAbs < 10 ^ 60) :
    Ev (tOp (rNeD K) (tCl sp__law_lowest ta) tb) σ H (.bl (!(decide (u / (Int.gcd u v : Int) = u) && decide (v / (Int.gcd u v : Int) = v)))) := by
  intro H1 e Q q
  refine ha H1 e _ fun H2 e2 => ⟨u, v, rfl, hu, h1, hv, fun t H3 ht e3 hx => hb H3 ((e.trans e2).trans e3) _ fun H4 e4 => ?_⟩
  refine ⟨.tuple [.int (u / (Int.gcd u v : Int)), .int (v / (Int.gcd u v : Int))], .tuple [.int u, .int v], .tup (SqT.of (e4 _ _ hx)) (.cons (.int _) (.cons (.int _) .nil)), .tup (ex_t (((e.trans e2).trans e3).trans e4) hT) (.cons (.int _) (.cons (.int _) .nil)), shaped_pair _ _, shaped_pair _ _, ?_⟩
  rw [eqv_pair]
  exact q H4 ((e2.trans e3).trans e4)
theorem filter_bad {l : List Str} : decide (l.filter badW = []) = l.all fun w => digL (TL.tl w) := by
  induction l with
  | nil => rfl
  | cons x r ih =>
    rw [List.filter_cons, List.all_cons, badW_dig]
    cases h : digL (TL.tl x) with
    | true => simpa using ih
    | false => rfl
theorem fig_ok {t : Str} (h : PyData.strOk t = true) : PyData.strOk (figS t) = true := by
  refine strOk_iff.mpr fun c hc => ?_
  rw [tl_fig] at hc
  refine strOk_iff.mp h c ?_
  unfold figL at hc
  split at hc
  · rename_i r e
    rw [e]
    exact List.mem_cons_of_mem _ hc
  · exact hc
theorem pure__law_ratio {K : PySem.W.Frag} {vs : List V} {H : Hp} {Q : VK} {E : XK} (h : sp__law_ratio K vs H Q E) : t__law_ratio K { nx := fun _ H' => Q .non H', rt := Q } (start ["_law_word", "_law_parts", "_law_sign", "_law_part", "_law_pair"] vs) H := by
  obtain ⟨t, rfl, hz, hok, k⟩ := h
  refine q_parL1 (el_split (ev_var rfl) ev_c rfl (by omega)) ev_c fun p0 H1 hp0 e1 hl1 => ?_
  generalize hs : Txt.split (figS t) "/" = ws
  have wl : ∀ w ∈ ws, w.length ≤ 60 := fun w hw => by
    rw [← hs] at hw
    exact Nat.le_trans (split_len _ w hw) (Nat.le_trans (fig_le t) hz)
  have wok : ∀ w ∈ ws, PyData.strOk w = true := fun w hw => by
    rw [← hs] at hw
    have := (split_parts (x := figS t) (y := "/") (by rw [tl_slash]; decide) (TL.kind_ok (by decide +kernel))).2 w hw
    exact strOk_iff.mpr fun c hc => strOk_iff.mp (fig_ok hok) c (this.2 c hc)
  have wmany : ws.length ≤ 61 := by
    rw [← hs]
    have := split_many (figS t)
    have := fig_le t
    omega
  have wne : ws ≠ [] := by rw [← hs]; exact split_ne _
  have rest : ∀ (D : Ends) pl H2, D.rt = Q → Ex H H2 → H2 pl = some (.lst (ws.map V.str)) → ((tSeq (tIfS (tOr (tTest (tOp rGtI (tCB (rLenS K) (tCons (tVar 1) tNil)) (tC (.int 2)))) (tTest (tOp (rNeD K) (tLc (iList K (tVar 1)) (gName 3) (tOr (tTest (tOp rNe (tM1 rStripC (tVar 3) (tC (.str "0123456789"))) (tC (.str "")))) (tTest (tOp rEq (tVar 3) (tC (.str ""))))) (tVar 3) [3]) (tLst tNil)))) (tRet (tC .non)) tNext) (tSeq (tAsg (tTup (tCons (tOp rTimesW (tVar 2) (tCB rIntStr (tCons (tOp (rIxL K) (tVar 1) (tC (.int 0))) tNil))) (tCons (tIf (tTest (tOp rEq (tCB (rLenS K) (tCons (tVar 1) tNil)) (tC (.int 2)))) (tCB rIntStr (tCons (tOp (rIxL K) (tVar 1) (tC (.int 1))) tNil)) (tC (.int 1))) tNil))) (gName 4)) (tSeq (tIfS (tOr (tTest (tOp rEq (tOp (rIxT K) (tVar 4) (tC (.int 1))) (tC (.int 0)))) (tOr (tTest (tOp (rNeD K) (tCl sp__law_lowest (tCons (tOp (rIxT K) (tVar 4) (tC (.int 0))) (tCons (tOp (rIxT K) (tVar 4) (tC (.int 1))) tNil))) (tVar 4))) (tTest (tOp rNe (tCl (sp__law_ratio_text K) (tCons (tVar 4) tNil)) (tVar 0))))) (tRet (tC .non)) tNext) (tRet (tVar 4)))))) D [some (.str t), some (.ref pl), some (.int (if isNeg t = true then -1 else 1)), none, none] H2 := by
    intro D pl H2 hD e2 hl
    have no : ∀ {H'}, Ex H H' → (∀ p q, RatT t p q → False) → D.rt .non H' := fun e hn => by
      rw [hD]
      refine k _ _ e ?_
      rw [ratOf_none fun p q h => hn p q h]
      rfl
    have full : ∀ p q, RatT t p q → ws = if q = 1 then [toS (p.natAbs : Int)] else [toS (p.natAbs : Int), toS q] := fun p q h => by
      rw [← hs]
      exact rat_split h.2.2 h.1
    refine q_when (b := decide (2 < ws.length) || !decide (ws.filter badW = [])) (et_or (et_is (et_test (ev_op (ev_len (ev_var rfl) (SqL.of hl)) ev_c rv_I0)) (by rw [List.length_map]; exact decide_eq_decide.mpr ⟨fun h => by omega, fun h => by omega⟩)) fun _ => et_test (ev_neLst (l := ws.filter badW) (ew_new ?_) (ew_new el_nilS) (fun z hm => wok z (List.mem_filter.mp hm).1) ok_nil)) (fun hb H3 e3 => ?_) (fun hb H3 e3 => ?_)
    · have em : ((ws.filter badW).map V.str) = ((ws.map V.str).filter fun v => badW (strOf v)).map id := by
        rw [List.map_id, List.filter_map]
        rfl
      rw [em]
      refine el_filter (fun v => badW (strOf v)) id (src_list (ev_var rfl) (SqL.of hl)) (by rw [List.length_map]; omega) (fun _ => rfl) (fun x H4 e4 hx => ?_) fun x H4 e4 hx _ => ev_var rfl
      obtain ⟨w, hm, rfl⟩ := List.mem_map.mp hx
      have := wl w hm
      refine et_or (et_is (et_test (ev_op (ev_stripC (ev_var rfl) ev_c (by omega)) ev_c (rv_ne rfl))) (congrArg (!·) (strip_all w "0123456789"))) fun _ => et_is (et_test (ev_op (ev_var rfl) ev_c (rv_eq rfl))) str_eq_bl
    · refine s_ret ev_c fun H4 e4 => no ((e2.trans e3).trans e4) fun p q hp => ?_
      have hf := full p q hp
      rw [filter_bad, hf] at hb
      have hq : q = ((q.natAbs : Nat) : Int) := by have := hp.1; omega
      split at hb
      · simp [dig_toS] at hb
      · rw [hq] at hb
        simp [dig_toS] at hb
    · rw [filter_bad] at hb
      have h2 : ws.length ≤ 2 := by
        simp at hb
        omega
      have hall : ∀ w ∈ ws, digL (TL.tl w) = true := by
        have : (ws.all fun w => digL (TL.tl w)) = true := by
          cases h : (ws.all fun w => digL (TL.tl w)) with
          | true => rfl
          | false => rw [h] at hb; simp at hb
        exact List.all_eq_true.mp this
      obtain ⟨a, r, rfl⟩ : ∃ a r, ws = a :: r := by
        cases ws with
        | nil => exact absurd rfl wne
        | cons a r => exact ⟨a, r, rfl⟩
      have ha := hall a List.mem_cons_self
      have hal := wl a List.mem_cons_self
      have hl3 := e3 _ _ hl
      have okb : ∀ b ∈ r, digL (TL.tl b) = true ∧ b.length ≤ 60 := fun b hb => ⟨hall b (List.mem_cons_of_mem _ hb), wl b (List.mem_cons_of_mem _ hb)⟩
      have hdb : ∀ b ∈ r, (dv b).natAbs < 10 ^ 60 ∧ 0 ≤ dv b := fun b hb => dv_lt (okb b hb).1 (okb b hb).2
      have hda := dv_lt ha hal
      generalize hsg : (if isNeg t = true then (-1 : Int) else 1) = sg
      have sg1 : sg = 1 ∨ sg = -1 := by
        rw [← hsg]
        split
        · exact .inr rfl
        · exact .inl rfl
      let u : Int := sg * dv a
      let v : Int := sndV r
      have hu : u.natAbs < 10 ^ 60 := by
        show (sg * dv a).natAbs < _
        rcases sg1 with e | e <;> rw [e] <;> omega
      have hv : v.natAbs < 10 ^ 60 ∧ 0 ≤ v := by
        show (sndV r).natAbs < _ ∧ 0 ≤ sndV r
        cases r with
        | nil => exact ⟨by decide +kernel, by decide⟩
        | cons b r2 => exact hdb b List.mem_cons_self
      have both : ∀ p q, RatT t p q → p = u ∧ q = v := fun p q hp => by
        have hf := full p q hp
        have hn := (rat_neg hp.2.2).1
        have hsp : sg * ((p.natAbs : Nat) : Int) = p := by
          rw [← hsg, hn]
          by_cases hp0 : p < 0
          · rw [decide_eq_true hp0]
            simp
            omega
          · rw [decide_eq_false hp0]
            simp
            omega
        by_cases h1 : q = 1
        · rw [if_pos h1] at hf
          cases hf
          refine ⟨?_, h1⟩
          show p = sg * dv (toS _)
          rw [dv_num, hsp]
        · rw [if_neg h1] at hf
          cases hf
          refine ⟨?_, ?_⟩
          · show p = sg * dv (toS _)
            rw [dv_num, hsp]
          · show q = dv (toS q)
            have hq : q = ((q.natAbs : Nat) : Int) := by have := hp.1; omega
            rw [hq, dv_num]
      refine q_asgU (xs := [.int u, .int v]) (eu_tup (ea_cons (ev_op (ev_var rfl) (ev_intS (ev_op (ev_var rfl) ev_c (rv_ixL (SqL.of hl3) (atI_nat rfl))) (dv_int ha hal) (by omega)) (rv_I ?_)) (ea_cons (ev_if (et_is (et_test (ev_op (ev_len (ev_var rfl) (SqL.of hl3)) ev_c (rv_eq rfl))) (int_eq_bl)) (fun h => ?_) fun h => ?_) ea_nil)) (Nat.le_of_ble_eq_true rfl)) fun pa H4 hpa e4 hx => ?_
      · refine wide_mul (a := 2) (b := 200) ?_ ?_ (by decide) (by decide) (by decide)
        · rcases sg1 with e | e <;> rw [e] <;> decide
        · exact Nat.lt_trans hda.1 (by decide +kernel)
      · cases r with
        | nil => simp at h
        | cons b r2 =>
          exact ev_intS (ev_op (ev_var rfl) ev_c (rv_ixL (SqL.of hl3) (atI_nat rfl))) (dv_int (okb b List.mem_cons_self).1 (okb b List.mem_cons_self).2) (by have := (okb b List.mem_cons_self).2; omega)
      · cases r with
        | nil => exact ev_c
        | cons b r2 =>
          exfalso
          simp only [List.map_cons, List.length_cons, List.length_map] at h h2
          have := of_decide_eq_false h
          omega
      have e24 := (e2.trans e3).trans e4
      have hT : SqT K H4 pa [.int u, .int v] := SqT.of hx
      have ou : okInt u := Nat.lt_trans hu (by decide +kernel)
      have ov : okInt v := Nat.lt_trans hv.1 (by decide +kernel)
      refine q_when (b := decide (v = 0) || (!(decide (u / (Int.gcd u v : Int) = u) && decide (v / (Int.gcd u v : Int) = v)) || !decide (ratText u v = t))) (et_or (et_is (et_test (ev_op (ev_op (ev_var rfl) ev_c (rv_ixT hT rfl)) ev_c (rv_eq rfl))) int_eq_bl) fun hv0 => et_or (et_test (ev_neLow (ea_cons (ev_op (ev_var rfl) ev_c (rv_ixT hT rfl)) (ea_cons (ev_op (ev_var rfl) ev_c (rv_ixT hT rfl)) ea_nil)) (ev_var rfl) hT hu (by have := of_decide_eq_false hv0; have := hv.2; omega) hv.1))
        fun _ => et_is (et_test (ev_op (ev_cl (ea_cons (ev_var rfl) ea_nil) (fun H5 e5 Q' q' E' => ⟨pa, u, v, rfl, ex_t e5 hT, ou, ov, q'⟩)) (ev_var rfl) (rv_ne rfl))) (congrArg (!·) str_eq_bl)) (fun hb H5 e5 => ?_) (fun hb H5 e5 => ?_)
      · refine s_ret ev_c fun H6 e6 => no ((e24.trans e5).trans e6) fun p q hp => ?_
        obtain ⟨rfl, rfl⟩ := both p q hp
        have hg := hp.2.1
        have h1 := hp.1
        rw [hg, ← hp.2.2] at hb
        simp at hb
        omega
      · refine s_ret (ev_var rfl) fun H6 e6 => ?_
        rw [hD]
        refine k _ _ ((e24.trans e5).trans e6) ?_
        have hR : RatT t u v := by
          rw [Bool.or_eq_false_iff, Bool.or_eq_false_iff] at hb
          obtain ⟨b1, b2, b3⟩ := hb
          have b1' : v ≠ 0 := of_decide_eq_false b1
          have hv1 : 1 ≤ v := by have := hv.2; omega
          have b3' : ratText u v = t := by simpa using b3
          have b2' : v / (Int.gcd u v : Int) = v := by
            simp at b2
            exact b2.2
          refine ⟨hv1, ?_, b3'.symm⟩
          have hg0 : Int.gcd u v ≠ 0 := fun e => b1' (Int.gcd_eq_zero_iff.mp e).2
          have hd : ((Int.gcd u v : Nat) : Int) ∣ v := Int.gcd_dvd_right ..
          have e := Int.ediv_mul_cancel hd
          rw [b2'] at e
          have : v * ((Int.gcd u v : Nat) : Int) = v * 1 := by rw [e, Int.mul_one]
          have := Int.eq_of_mul_eq_mul_left b1' this
          omega
        rw [ratOf_some hR]
        exact ⟨pa, rfl, (e5.trans e6) _ _ hx⟩
  refine q_when (et_is (et_test (ev_op (ev_slS (ev_var rfl) eo_none (eo_some ev_c) (by omega)) ev_c (rv_eq rfl))) (neg_iff t)) (fun hb H2 e2 => ?_) (fun hb H2 e2 => ?_)
  · refine s_parL1 (el_split (ev_slS (ev_var rfl) (eo_some ev_c) eo_none (by omega)) ev_c rfl (by have := cut_le t (some 1) none; omega)) (ev_op ev_c ev_c rv_I0) fun pl H3 hp e3 hx => ?_
    have := rest { nx := fun _ H' => Q .non H', rt := Q } pl H3 rfl ((e1.trans e2).trans e3) (by
      rw [hx, ← hs]
      unfold figS
      rw [if_pos hb])
    rw [if_pos hb] at this
    exact this
  · have := rest { nx := fun _ H' => Q .non H', rt := Q } p0 H2 rfl (e1.trans e2) (by
      rw [e2 _ _ hl1, ← hs]
      unfold figS
      rw [if_neg (by rw [hb]; decide)])
    rw [if_neg (by rw [hb]; decide)] at this
    exact this
theorem sc__law_ratio : FnScope ["_law_word", "_law_parts", "_law_sign", "_law_part", "_law_pair"] ["_law_word"] (defScope s__law_ratio) := ⟨rfl, rfl, rfl, by decide +kernel, rfl, by decide +kernel, by decide +kernel⟩
theorem d__law_ratio {P : Program} {w : World} {K : PySem.W.Frag} {mg : Str → Option Value} {base : Heap} (T : Txt K mg) {f : Addr} {cdv : Value} {A : Around} {outer : List Env} {s : Shared} {H : Hp} {E : XK} (hr : Room 1 (A.deeper (envOfC "_law_ratio" (defScope s__law_ratio) s.heap.objs.size f cdv))) :
    PSs (cxOf CX0 P w K mg base ["_law_word", "_law_parts", "_law_sign", "_law_part", "_law_pair"] "_law_ratio" (defScope s__law_ratio) f cdv A outer s H E).nox (defBody s__law_ratio) (t__law_ratio K) := by
  have hu := hu_of hr
  exact (pss_cons (ps_par (i := 1) (j := 2) (by rfl) sc__law_ratio.nd rfl rfl (by decide) rfl rfl (pa_cons (pe_split (pv 0) pe_str) (pa_cons pe_int pa_nil)) (by rfl))
      (pss_cons (ps_if (pt_cmpR op_eq (pe_slice sl_str (pv 0) po_none (po_some pe_int)) pe_str (nomark _)) (pss_one (ps_par (i := 1) (j := 2) (by rfl) sc__law_ratio.nd rfl rfl (by decide) rfl rfl (pa_cons (pe_split (pe_slice sl_str (pv 0) (po_some pe_int) po_none) pe_str) (pa_cons (pe_op op_sub pe_int pe_int) pa_nil)) (by rfl))) pss_nil)
      (pss_cons (ps_if (PW.pt (pw_or (pt_cmpR op_gt (pe_callB call_len_seq (by rfl) T.b_len (by decide +kernel) (pa_cons (pv 1) pa_nil)) pe_int (nomark _)) (pw_or1 (pt_cmpR (op_neD hr.units) (pe_lc (own := [("_law_part", 3)]) rfl sc__law_ratio.nd (pi_list (pv 1)) (blkOk_by (own := [("_law_part", 3)]) (N := ["_law_word", "_law_parts", "_law_sign", "_law_part", "_law_pair"]) (sc := defScope s__law_ratio) (by decide +kernel)) (fun _ _ _ _ _ => (pg_name (i := 3) sc__law_ratio.nd rfl (Or.inl rfl))) (fun _ _ _ _ _ => (pts_one (PW.pt (pw_or (pt_cmpR op_ne (pe_stripC (pv 3) pe_str) pe_str (nomark _)) (pw_or1 (pt_cmpR op_eq (pv 3) pe_str (nomark _))))))) (fun _ _ _ _ _ => (pv 3))) (pe_lst pa_nil) (nomark _))))) (pss_one (ps_ret pe_non)) pss_nil)
      (pss_cons (ps_asg (pe_tup (pa_cons (pe_op op_mulW (pv 2) (pe_callTy call_int_str (by rfl) T.b_int (by decide +kernel) (pa_cons (pe_ix ix_list (pv 1) pe_int (fun _ _ => rfl)) pa_nil))) (pa_cons (pe_ifExp (pt_cmpR op_eq (pe_callB call_len_seq (by rfl) T.b_len (by decide +kernel) (pa_cons (pv 1) pa_nil)) pe_int (nomark _)) (pe_callTy call_int_str (by rfl) T.b_int (by decide +kernel) (pa_cons (pe_ix ix_list (pv 1) pe_int (fun _ _ => rfl)) pa_nil)) pe_int) pa_nil))) (pg_name (i := 4) sc__law_ratio.nd rfl (Or.inl rfl)))
      (pss_cons (ps_if (PW.pt (pw_or (pt_cmpR op_eq (pe_ix ix_tup (pv 4) pe_int (fun _ _ => rfl)) pe_int (nomark _)) (pw_or (pt_cmpR (op_neD hr.units) (pe_cl (cl__law_lowest T) hr (pa_cons (pe_ix ix_tup (pv 4) pe_int (fun _ _ => rfl)) (pa_cons (pe_ix ix_tup (pv 4) pe_int (fun _ _ => rfl)) pa_nil))) (pv 4) (nomark _)) (pw_or1 (pt_cmpR op_ne (pe_cl (cl__law_ratio_text T) hr (pa_cons (pv 4) pa_nil)) (pv 0) (nomark _)))))) (pss_one (ps_ret pe_non)) pss_nil)
      (pss_one (ps_ret (pv 4))))))))
theorem ok__law_ratio {P : Program} {w : World} {K : PySem.W.Frag} {mg : Str → Option Value} {base : Heap} (T : Txt K mg) : FnOk P w K mg base CX0 2 T.l_ratio.f T.l_ratio.fd ["_law_word"] (sp__law_ratio K) :=
  ok0 T.l_ratio.F sc__law_ratio len__law_ratio fun cdv A outer s H vs Q E hr h => ⟨t__law_ratio K, d__law_ratio T hr, pure__law_ratio h⟩
theorem cl__law_ratio {P : Program} {w : World} {K : PySem.W.Frag} {mg : Str → Option Value} {base : Heap} (T : Txt K mg) : Cl P w K mg base 2 "_law_ratio" (sp__law_ratio K) := cl_of T.l_ratio (ok__law_ratio T) fun _ _ _ _ _ _ us hl => match us, hl with | [_], _ => rfl

end K08

namespace K08
open PySem PySem.Spec PyProof.Rows L2 Evl
/-! ### _law_lines -/
def t__law_lines (K : PySem.W.Frag) : TS :=
  (tSeq (tAsg (tLc (iList K (tCl sp__law_names (tCons (tVar 0) tNil))) (gName 2) tYes (tM1 (rJoin K) (tC (.str " ")) (tOp rCat (tLst (tCons (tC (.str "table")) (tCons (tVar 2) tNil))) (tDGet (tDGet (tVar 0) (tC (.str "tables"))) (tVar 2)))) [2]) (gName 1))
    (tSeq (tFor (iList K (tCl sp__law_names (tCons (tVar 0) tNil))) (gName 2)
    (tIfS (tTest (tOp (rNeD K) (tDGet (tDGet (tVar 0) (tC (.str "sizes"))) (tVar 2)) (tTup (tCons (tC (.int 1)) (tCons (tC (.int 1)) tNil))))) (tDrop (tBM K "list" rAppend (tVar 1) (tCons (tOp rCatS (tOp rCatS (tOp rCatS (tC (.str "size ")) (tVar 2)) (tC (.str " "))) (tCl (sp__law_ratio_text K) (tCons (tDGet (tDGet (tVar 0) (tC (.str "sizes"))) (tVar 2)) tNil))) tNil))) tNext))
    (tRet (tOp rCat (tVar 1) (tIf (tTest (tOp (rNeD K) (tDGet (tVar 0) (tC (.str "groups"))) (tLst tNil))) (tLst (tCons (tM1 (rJoin K) (tC (.str " ")) (tOp rCat (tLst (tCons (tC (.str "group")) tNil)) (tDGet (tVar 0) (tC (.str "groups"))))) tNil)) (tLst tNil))))))
structure PlOk (p : P0) : Prop where
  nd : (p.tb.map (·.1)).Nodup
  few : p.tb.length < 64
  tabs : ∀ e ∈ p.tb, e.1.length ≤ 60 ∧ e.2.length ≤ 64 ∧ ∀ z ∈ e.2, z.length ≤ 60
  gr : p.gr.length ≤ 64 ∧ ∀ z ∈ p.gr, z.length ≤ 60 ∧ PyData.strOk z = true
  szs : ∀ e ∈ p.tb, (p.sz.lookup e.1).isSome
  szo : ∀ e ∈ p.sz, okInt e.2.1 ∧ okInt e.2.2
def sp__law_lines (K : PySem.W.Frag) : Sp := fun vs H Q _ => ∃ (d : Addr) (p : P0), vs = [.ref d] ∧ PlA H d p ∧ PlOk p ∧ ∀ l H', H l = none → Ex H H' → H' l = some (.lst ((linesOf p.tb p.gr p.sz).map V.str)) → Q (.ref l) H'
theorem len__law_lines {K : PySem.W.Frag} : ∀ vs H Q E, sp__law_lines K vs H Q E → vs.length = 1 := fun vs H Q E ⟨_, _, e, _⟩ => by rw [e]; rfl
section
variable {K : PySem.W.Frag} {σ : L2.St} {H : Hp} {ta tb : TE} {t : TT} {xs : List V}
theorem el_if {b : Bool} (h : EvT t σ H b) (h1 : b = true → EvL ta σ H xs) (h2 : b = false → EvL tb σ H xs) : EvL (tIf t ta tb) σ H xs := fun H1 e Q q => h H1 e _ fun H2 e2 => by
  cases b with
  | true => exact h1 rfl H2 (e.trans e2) Q fun p H3 hp e3 => q p H3 (fresh_back e2 hp) (e2.trans e3)
  | false => exact h2 rfl H2 (e.trans e2) Q fun p H3 hp e3 => q p H3 (fresh_back e2 hp) (e2.trans e3)
theorem ev_neOne {v : V} {z : Int × Int} (ha : Ev ta σ H v) (hv : pairR H v z) : Ev (tOp (rNeD K) ta (tTup (tCons (tC (.int 1)) (tCons (tC (.int 1)) tNil)))) σ H (.bl (!decide (z = (1, 1)))) := by
  intro H1 e Q q
  obtain ⟨t, rfl, ht⟩ := hv
  refine ha H1 e _ fun H2 e2 => eq_one1 H2 (Ex.refl H2) _ fun w H3 e3 hw => ?_
  obtain ⟨u, rfl, hu⟩ := hw
  refine ⟨.tuple [.int z.1, .int z.2], .tuple [.int 1, .int 1], .tup (SqT.of (((e.trans e2).trans e3) _ _ ht)) (.cons (.int _) (.cons (.int _) .nil)), .tup (SqT.of hu) (.cons (.int _) (.cons (.int _) .nil)), shaped_pair _ _, shaped_pair _ _, ?_⟩
  rw [eqv_pair]
  have : (decide (z.1 = 1) && decide (z.2 = 1)) = decide (z = (1, 1)) := by
    rw [← Bool.decide_and]
    exact decide_eq_decide.mpr ⟨fun ⟨x, y⟩ => Prod.ext x y, fun h => ⟨congrArg Prod.fst h, congrArg Prod.snd h⟩⟩
  rw [this]
  exact q H3 (e2.trans e3)
end
theorem sum_le {l : List Str} {k : Nat} (h : ∀ z ∈ l, z.length ≤ k) : (l.map (·.length)).sum ≤ l.length * k := by
  induction l with
  | nil => exact Nat.zero_le _
  | cons x r ih =>
    have h1 := h x List.mem_cons_self
    have h2 := ih fun z hz => h z (List.mem_cons_of_mem _ hz)
    rw [List.map_cons, List.sum_cons, List.length_cons, Nat.succ_mul]
    omega
theorem names_in {p : P0} (ok : PlOk p) {n : Str} (h : n ∈ namesOf' p.tb) : ∃ c, p.tb.lookup n = some c ∧ colOf p.tb n = c ∧ (n, c) ∈ p.tb := by
  obtain ⟨e, he, rfl⟩ := List.mem_map.mp (mem_setSort.mp h)
  exact ⟨e.2, mem_lookup ok.nd he, colOf_mem ok.nd he, he⟩
theorem names_few {p : P0} (ok : PlOk p) : (namesOf' p.tb).length < 64 := by
  have h1 := setSort_len (p.tb.map (·.1))
  rw [List.length_map] at h1
  exact Nat.lt_of_le_of_lt h1 ok.few
theorem pure__law_lines {K : PySem.W.Frag} {vs : List V} {H : Hp} {Q : VK} {E : XK} (h : sp__law_lines K vs H Q E) : t__law_lines K { nx := fun _ H' => Q .non H', rt := Q } (start ["_law_plain_here", "_law_found", "_law_name"] vs) H := by
  obtain ⟨d, p, rfl, hp, ok, k⟩ := h
  have h64 := names_few ok
  refine q_asgL (xs := (namesOf' p.tb).map fun n => V.str (tableText n (colOf p.tb n))) ?_ fun f H1 hf e1 hf1 => ?_
  · have em : ((namesOf' p.tb).map fun n => V.str (tableText n (colOf p.tb n))) = ((namesOf' p.tb).map V.str).map fun v => V.str (tableText (strOf v) (colOf p.tb (strOf v))) := by
      rw [List.map_map]
      rfl
    rw [em]
    refine el_map _ (src_newL (el_names (ev_var rfl) hp ok.nd ok.few)) (by rw [List.length_map]; omega) (fun _ => rfl) fun x H3 e3 hx => ?_
    obtain ⟨n, hn, rfl⟩ := List.mem_map.mp hx
    obtain ⟨c, h1, h2, h3⟩ := names_in ok hn
    obtain ⟨t, g, z, l, l2, f1, f2, f3, _, _, _⟩ := (hp.ex e3).field
    obtain ⟨v, hv, y, rfl, hy⟩ := f3.get h1
    show Ev _ _ _ (.str (tableText n (colOf p.tb n)))
    rw [h2]
    obtain ⟨t1, t2, t3⟩ := ok.tabs _ h3
    refine ev_joinN (l := "table" :: n :: c) ev_c (el_cat (xs := [.str "table", .str n]) (ew_new (el_lst (ea_cons ev_c (ea_cons (ev_var rfl) ea_nil)) (Nat.le_of_ble_eq_true rfl))) (ew_old (ev_dget (ev_dget (ev_var rfl) ev_c f1 lk_t) (ev_var rfl) f2 hv) hy) ?_) ?_
    · simp only [List.length_map, List.length_cons, List.length_nil]
      dsimp only at t2
      omega
    · have := sum_le t3
      have e5 : ("table" : Str).length = 5 := rfl
      have e1' : (" " : Str).length = 1 := rfl
      simp only [List.map_cons, List.sum_cons, List.length_cons, e5, e1']
      dsimp only at t1 t2 this
      omega
  · refine q_forNL (el_names (ev_var rfl) (hp.ex e1) ok.nd ok.few) (fun pn i σ' H' => ∃ x : Option V, σ' = [some (.ref d), some (.ref f), x] ∧ Ex H H' ∧ pn ≠ f ∧ H' pn = some (.lst ((namesOf' p.tb).map V.str)) ∧ H' f = some (.lst ((namesOf' p.tb).map (fun n => V.str (tableText n (colOf p.tb n))) ++ (((namesOf' p.tb).take i).filter fun n => !decide (sizeOf' p.sz n = (1, 1))).map fun n => V.str (sizeText n (sizeOf' p.sz n)))))
      (fun pn H2 hpn e2 hx => ⟨none, rfl, e1.trans e2, (fun z => by rw [z, hf1] at hpn; cases hpn), hx, by rw [List.take_zero, List.filter_nil, List.map_nil, List.append_nil]; exact e2 _ _ hf1⟩) (fun pn i σ' H' _ q => by obtain ⟨_, _, _, _, q, _⟩ := q; exact SqL.of q) (fun pn i v σ' H' hi q => ?_) (fun pn σ' H' q => ?_)
    · obtain ⟨x, rfl, e2, hne, h1, h2⟩ := q
      rw [List.getElem?_map] at hi
      obtain ⟨n, hn, rfl⟩ := Option.map_eq_some_iff.mp hi
      have hm : n ∈ namesOf' p.tb := List.mem_of_getElem? hn
      obtain ⟨c, c1, c2, c3⟩ := names_in ok hm
      obtain ⟨t, g, z, l, l2, f1, f2, f3, f4, f5, f6⟩ := (hp.ex e2).field
      have hs := ok.szs _ c3
      obtain ⟨zz, hzz⟩ := Option.isSome_iff_exists.mp hs
      have hso : sizeOf' p.sz n = zz := by unfold sizeOf'; rw [hzz]; rfl
      obtain ⟨v, hv, hpv⟩ := f6.get hzz
      have hoz := ok.szo _ (lookup_mem hzz)
      have hsv : ∀ {H2 : Hp}, Ex H' H2 → Ev (tDGet (tDGet (tVar 0) (tC (.str "sizes"))) (tVar 2)) [some (.ref d), some (.ref f), some (.str n)] H2 v := fun e => ev_dget (ev_dget (ev_var rfl) ev_c (ds_ex e f1) lk_z) (ev_var rfl) (ds_ex e f5) hv
      have htk : (namesOf' p.tb).take (i + 1) = (namesOf' p.tb).take i ++ [n] := by rw [List.take_add_one, hn]; rfl
      have hfl := List.length_filter_le (fun n => !decide (sizeOf' p.sz n = (1, 1))) ((namesOf' p.tb).take i)
      rw [List.length_take] at hfl
      obtain ⟨t1, _, _⟩ := ok.tabs _ c3
      refine s_when (et_test (ev_neOne (hsv (Ex.refl _)) hpv)) (fun hb H3 e3 => ?_) (fun hb H3 e3 => ?_)
      · have hlr : (ratText zz.1 zz.2).length ≤ 300 := ratText_len hoz.1 hoz.2
        obtain ⟨tz, rfl, htz⟩ := hpv
        refine s_app (e3 _ _ h2) (ev_var rfl) (v := .str (sizeText n zz)) (ev_is (ev_op (ev_op (ev_op ev_c (ev_var rfl) (rv_catS ?_)) ev_c (rv_catS ?_)) (ev_cl (ea_cons (hsv e3) ea_nil) (fun H5 e5 Q' q' E' => ⟨tz, zz.1, zz.2, rfl, SqT.of ((e3.trans e5) _ _ htz), hoz.1, hoz.2, q'⟩)) (rv_catS ?_)) ?_) ?_ fun H4 e4 => ?_
        · show 5 + n.length ≤ _
          dsimp only at t1
          omega
        · rw [len_app]
          show 5 + n.length + 1 ≤ _
          dsimp only at t1
          omega
        · rw [len_app, len_app]
          show 5 + n.length + 1 + _ ≤ _
          dsimp only at t1
          omega
        · unfold sizeText
          rw [show ("size " : Str) = "size" ++ " " by decide +kernel, app_assoc, app_assoc, app_assoc]
        · simp only [List.length_append, List.length_map]
          omega
        · refine ⟨_, rfl, ((e2.trans e3).trans e4).mut hf, hne, by rw [upd_ne hne]; exact e4 _ _ (e3 _ _ h1), ?_⟩
          rw [upd_same, htk, List.filter_append, List.map_append, List.append_assoc]
          have : [n].filter (fun n => !decide (sizeOf' p.sz n = (1, 1))) = [n] := by
            rw [List.filter_cons, hso, if_pos hb]
            rfl
          rw [this, List.map_singleton, hso]
      · refine ⟨_, rfl, e2.trans e3, hne, e3 _ _ h1, ?_⟩
        rw [htk, List.filter_append]
        have : [n].filter (fun n => !decide (sizeOf' p.sz n = (1, 1))) = [] := by
          rw [List.filter_cons, hso, hb]
          rfl
        rw [this, List.append_nil]
        exact e3 _ _ h2
    · obtain ⟨x, rfl, e2, hne, h1, h2⟩ := q
      rw [List.length_map, List.take_length] at h2
      obtain ⟨t, g, z, l, l2, f1, f2, f3, f4, f5, f6⟩ := (hp.ex e2).field
      have hg : ∀ {H2 : Hp} {x : Option V}, Ex H' H2 → Ev (tDGet (tVar 0) (tC (.str "groups"))) [some (.ref d), some (.ref f), x] H2 (.ref g) := fun e => ev_dget (ev_var rfl) ev_c (ds_ex e f1) lk_g
      have hL : (linesOf p.tb p.gr p.sz).map V.str = ((namesOf' p.tb).map (fun n => V.str (tableText n (colOf p.tb n))) ++ ((namesOf' p.tb).filter fun n => !decide (sizeOf' p.sz n = (1, 1))).map fun n => V.str (sizeText n (sizeOf' p.sz n))) ++ (if p.gr = [] then [] else [V.str (groupText p.gr)]) := by
        unfold linesOf
        rw [List.map_append, List.map_append, List.map_map, List.map_map]
        congr 1
        split <;> rfl
      have hfl := List.length_filter_le (fun n => !decide (sizeOf' p.sz n = (1, 1))) (namesOf' p.tb)
      have hgl := ok.gr.1
      have hgs := sum_le (fun z hz => (ok.gr.2 z hz).1)
      refine s_retL (xs := (linesOf p.tb p.gr p.sz).map V.str) (by
        rw [hL]
        refine el_cat (ew_old (ev_var rfl) h2) (ew_new (el_if (b := !decide (p.gr = [])) (et_test (ev_neLst (ew_old (hg (Ex.refl _)) f4) (ew_new el_nilS) (fun z hz => (ok.gr.2 z hz).2) ok_nil)) (fun hb => ?_) (fun hb => ?_))) ?_
        · have hgr : p.gr ≠ [] := by simpa using hb
          rw [if_neg hgr]
          refine el_lst (ea_cons (ev_joinN (l := "group" :: p.gr) ev_c (el_cat (xs := [.str "group"]) (ew_new (el_lst (ea_cons ev_c ea_nil) (Nat.le_of_ble_eq_true rfl))) (ew_old (hg (Ex.refl _)) f4) ?_) ?_) ea_nil) (Nat.le_of_ble_eq_true rfl)
          · simp only [List.length_map, List.length_cons, List.length_nil]
            omega
          · have e5 : ("group" : Str).length = 5 := rfl
            have e1' : (" " : Str).length = 1 := rfl
            simp only [List.map_cons, List.sum_cons, List.length_cons, e5, e1']
            omega
        · have hgr : p.gr = [] := by simpa using hb
          rw [if_pos hgr]
          exact el_lst ea_nil (by decide)
        · simp only [List.length_append, List.length_map]
          split <;> simp only [List.length_nil, List.length_cons] <;> omega) fun q H3 hq e3 hx => k q H3 (fresh_back e2 hq) (e2.trans e3) hx
theorem sc__law_lines : FnScope ["_law_plain_here", "_law_found", "_law_name"] ["_law_plain_here"] (defScope s__law_lines) := ⟨rfl, rfl, rfl, by decide +kernel, rfl, by decide +kernel, by decide +kernel⟩
theorem d__law_lines {P : Program} {w : World} {K : PySem.W.Frag} {mg : Str → Option Value} {base : Heap} (T : Txt K mg) {f : Addr} {cdv : Value} {A : Around} {outer : List Env} {s : Shared} {H : Hp} {E : XK} (hr : Room 1 (A.deeper (envOfC "_law_lines" (defScope s__law_lines) s.heap.objs.size f cdv))) :
    PSs (cxOf CX0 P w K mg base ["_law_plain_here", "_law_found", "_law_name"] "_law_lines" (defScope s__law_lines) f cdv A outer s H E).nox (defBody s__law_lines) (t__law_lines K) := by
  have hu := hu_of hr
  exact (pss_cons (ps_setLc (i := 1) (own := [("_law_name", 2)]) rfl sc__law_lines.nd rfl rfl (sw_true rfl rfl rfl (by decide +kernel)) (pi_list (pe_cl (cl__law_names T) hr (pa_cons (pv 0) pa_nil))) (blkOk_by (own := [("_law_name", 2)]) (N := ["_law_plain_here", "_law_found", "_law_name"]) (sc := defScope s__law_lines) (by decide +kernel)) (fun _ _ _ _ _ => (pg_name (i := 2) sc__law_lines.nd rfl (Or.inl rfl))) (fun _ _ _ _ _ => pts_nil) (fun _ _ _ _ _ => (pe_join pe_str (pe_op op_cat (pe_lst (pa_cons pe_str (pa_cons (pv 2) pa_nil))) (pe_dget hu (pe_dget hu (pv 0) pe_str (fun _ _ => rfl)) (pv 2) (fun _ _ => rfl))))))
      (pss_cons (ps_for PassesOwn.never rfl (pi_list (pe_cl (cl__law_names T) hr (pa_cons (pv 0) pa_nil))) (pg_name (i := 2) sc__law_lines.nd rfl (Or.inl rfl))
      (pss_one (ps_if (pt_cmpR (op_neD hr.units) (pe_dget hu (pe_dget hu (pv 0) pe_str (fun _ _ => rfl)) (pv 2) (fun _ _ => rfl)) (pe_tup (pa_cons pe_int (pa_cons pe_int pa_nil))) (nomark _)) (pss_one (ps_expr (pe_bm PySem.F.plainAttrs_list PySem.F.slot_list_append PySem.F.type_list_append mt_append (pv 1) (pa_cons (pe_op op_add_str (pe_op op_add_str (pe_op op_add_str pe_str (pv 2)) pe_str) (pe_cl (cl__law_ratio_text T) hr (pa_cons (pe_dget hu (pe_dget hu (pv 0) pe_str (fun _ _ => rfl)) (pv 2) (fun _ _ => rfl)) pa_nil))) pa_nil)))) pss_nil)))
      (pss_one (ps_ret (pe_op op_cat (pv 1) (pe_ifExp (pt_cmpR (op_neD hr.units) (pe_dget hu (pv 0) pe_str (fun _ _ => rfl)) (pe_lst pa_nil) (nomark _)) (pe_lst (pa_cons (pe_join pe_str (pe_op op_cat (pe_lst (pa_cons pe_str pa_nil)) (pe_dget hu (pv 0) pe_str (fun _ _ => rfl)))) pa_nil)) (pe_lst pa_nil)))))))
theorem ok__law_lines {P : Program} {w : World} {K : PySem.W.Frag} {mg : Str → Option Value} {base : Heap} (T : Txt K mg) : FnOk P w K mg base CX0 2 T.l_lines.f T.l_lines.fd ["_law_plain_here"] (sp__law_lines K) :=
  ok0 T.l_lines.F sc__law_lines len__law_lines fun cdv A outer s H vs Q E hr h => ⟨t__law_lines K, d__law_lines T hr, pure__law_lines h⟩
theorem cl__law_lines {P : Program} {w : World} {K : PySem.W.Frag} {mg : Str → Option Value} {base : Heap} (T : Txt K mg) : Cl P w K mg base 2 "_law_lines" (sp__law_lines K) := cl_of T.l_lines (ok__law_lines T) fun _ _ _ _ _ _ us hl => match us, hl with | [_], _ => rfl

end K08

namespace K08
open PySem PySem.Spec PyProof.Rows L2 Evl
/-! ### the law's step over a line is the package's (plain) -/
def nameIn (r : List Str) : Str := r.headD ""
def tabIf (st : QS) (w : Str) (r : List Str) : Bool := decide (w = "table") && (isName (nameIn r) && (lawNames (r.drop 1) && !(st.tb.lookup (nameIn r)).isSome))
def sizIf (st : QS) (w : Str) (r : List Str) : Bool := decide (w = "size") && (decide (r.length = 2) && (isName (nameIn r) && !(st.sz.lookup (nameIn r)).isSome))
def grpIf (st : QS) (w : Str) (r : List Str) : Bool := decide (w = "group") && (lawNames r && st.gr.isNone)
theorem sw_one (st : QS) (w n : Str) : stepWords st [w, n] = if w = "table" then putTable st n [] else if w = "group" then putGroups st [n] else none := by
  rw [stepWords]
  intro t h
  cases h
theorem sw_two (st : QS) (w n t : Str) : stepWords st [w, n, t] = if w = "table" then putTable st n [t] else if w = "size" then putSize st n (ratOf t) else if w = "group" then putGroups st [n, t] else none := by
  rw [stepWords]
theorem sw_many (st : QS) (w n t u : Str) (c : List Str) : stepWords st (w :: n :: t :: u :: c) = if w = "table" then putTable st n (t :: u :: c) else if w = "group" then putGroups st (n :: t :: u :: c) else none := by
  rw [stepWords]
  intro v h
  cases h
theorem sw_table (st : QS) (n : Str) (c : List Str) : stepWords st ("table" :: n :: c) = putTable st n c := by
  match c with
  | [] => rw [sw_one, if_pos rfl]
  | [t] => rw [sw_two, if_pos rfl]
  | t :: u :: c => rw [sw_many, if_pos rfl]
theorem isName_empty : isName ("" : Str) = false := by decide +kernel
theorem step_table {st : QS} {w : Str} {r : List Str} (h : tabIf st w r = true) : stepWords st (w :: r) = some { st with tb := st.tb ++ [(nameIn r, r.drop 1)] } := by
  unfold tabIf at h
  simp only [Bool.and_eq_true, decide_eq_true_eq] at h
  obtain ⟨rfl, h1, h2, h3⟩ := h
  cases r with
  | nil => rw [show nameIn [] = "" from rfl, isName_empty] at h1; cases h1
  | cons n c =>
    rw [sw_table]
    unfold putTable
    unfold lawNames at h2
    rw [Bool.and_eq_true] at h2
    rw [if_pos]
    · rfl
    · rw [Bool.and_eq_true, Bool.and_eq_true, Bool.and_eq_true]
      exact ⟨h1, h2.1, h2.2, h3⟩
theorem ne_ts : (("size" : Str) = "table") = False := by
  refine eq_false ?_
  decide +kernel
theorem ne_tg : (("group" : Str) = "table") = False := by
  refine eq_false ?_
  decide +kernel
theorem ne_sg : (("group" : Str) = "size") = False := by
  refine eq_false ?_
  decide +kernel
theorem step_size {st : QS} {w : Str} {r : List Str} (h : sizIf st w r = true) : stepWords st (w :: r) = (ratOf ((r.drop 1).headD "")).map fun z => { st with sz := st.sz ++ [(nameIn r, z)] } := by
  unfold sizIf at h
  simp only [Bool.and_eq_true, decide_eq_true_eq] at h
  obtain ⟨rfl, h1, h2, h3⟩ := h
  match r, h1 with
  | [n, t], _ =>
    rw [sw_two, if_neg (by rw [ne_ts]; exact id), if_pos rfl]
    show putSize st n (ratOf t) = (ratOf t).map _
    unfold putSize
    cases ratOf t with
    | none => rfl
    | some z =>
      show (if _ then _ else _) = _
      rw [if_pos]
      · rfl
      · rw [Bool.and_eq_true]
        exact ⟨h2, h3⟩
theorem step_group {st : QS} {w : Str} {r : List Str} (h : grpIf st w r = true) : stepWords st (w :: r) = some { st with gr := some r } := by
  unfold grpIf at h
  simp only [Bool.and_eq_true, decide_eq_true_eq] at h
  obtain ⟨rfl, h1, h2⟩ := h
  have hp : putGroups st r = some { st with gr := some r } := by
    unfold putGroups
    unfold lawNames at h1
    rw [Bool.and_eq_true] at h1
    rw [if_pos]
    rw [Bool.and_eq_true, Bool.and_eq_true]
    exact ⟨h1.1, h1.2, h2⟩
  rw [← hp]
  match r with
  | [] => rw [stepWords, if_pos rfl]
  | [n] => rw [sw_one, if_neg (by rw [ne_tg]; exact id), if_pos rfl]
  | [n, t] => rw [sw_two, if_neg (by rw [ne_tg]; exact id), if_neg (by rw [ne_sg]; exact id), if_pos rfl]
  | n :: t :: u :: c => rw [sw_many, if_neg (by rw [ne_tg]; exact id), if_pos rfl]
theorem step_none {st : QS} {w : Str} {r : List Str} (h1 : tabIf st w r = false) (h2 : sizIf st w r = false) (h3 : grpIf st w r = false) : stepWords st (w :: r) = none := by
  have hg : w = "group" → putGroups st r = none := fun e => by
    unfold grpIf at h3
    rw [e, decide_eq_true rfl, Bool.true_and] at h3
    unfold putGroups
    rw [if_neg]
    unfold lawNames at h3
    rw [Bool.and_assoc] at h3
    rw [h3]
    decide
  have ht : ∀ n c, r = n :: c → w = "table" → putTable st n c = none := fun n c e e2 => by
    subst e
    unfold tabIf at h1
    rw [e2, decide_eq_true rfl, Bool.true_and] at h1
    unfold putTable
    rw [if_neg]
    unfold lawNames at h1
    rw [Bool.and_assoc] at h1
    rw [show isName n = isName (nameIn (n :: c)) from rfl]
    intro hc
    have : (isName (nameIn (n :: c)) && (!decide ((n :: c).drop 1 = []) && (areNames ((n :: c).drop 1) && !(st.tb.lookup (nameIn (n :: c))).isSome))) = true := hc
    rw [h1] at this
    cases this
  have hs : ∀ n t, r = [n, t] → w = "size" → putSize st n (ratOf t) = none := fun n t e e2 => by
    subst e
    unfold sizIf at h2
    rw [e2, decide_eq_true rfl, Bool.true_and] at h2
    have h2' : (isName n && !(st.sz.lookup n).isSome) = false := h2
    unfold putSize
    cases ratOf t with
    | none => rfl
    | some z =>
      show (if _ then _ else _) = _
      rw [if_neg]
      rw [h2']
      decide
  match r with
  | [] =>
    rw [stepWords]
    split
    · rename_i e
      exact hg e
    · rfl
  | [n] =>
    rw [sw_one]
    split
    · rename_i e
      exact ht n [] rfl e
    · split
      · rename_i e
        exact hg e
      · rfl
  | [n, t] =>
    rw [sw_two]
    split
    · rename_i e
      exact ht n [t] rfl e
    · split
      · rename_i e
        exact hs n t rfl e
      · split
        · rename_i e
          exact hg e
        · rfl
  | n :: t :: u :: c =>
    rw [sw_many]
    split
    · rename_i e
      exact ht n (t :: u :: c) rfl e
    · split
      · rename_i e
        exact hg e
      · rfl
/-- the words of a line -/
def wsOf : Option Str → List Str
  | some z => wordsOf z
  | none => [""]
theorem stepLine_ws (st : QS) (o : Option Str) : stepLine st o = stepWords st (wsOf o) := by
  cases o with
  | some z => rfl
  | none =>
    show none = stepWords st [""]
    rw [stepWords, if_neg (by decide +kernel)]
theorem words_ne (z : Str) : wordsOf z ≠ [] := fun h => by
  have e := TL.split_spl z " " (by rw [tl_space]; decide) (TL.kind_ok (by decide +kernel))
  unfold wordsOf at h
  rw [h] at e
  exact spl_ne _ _ _ _ e.symm
theorem wsOf_ok {o : Option Str} (h : ∀ z, o = some z → lnOk z) : (wsOf o).length ≤ 61 ∧ (∀ w ∈ wsOf o, w.length ≤ 60 ∧ PyData.strOk w = true) ∧ wsOf o ≠ [] := by
  cases o with
  | some z => exact ⟨(words_ok (h z rfl)).1, (words_ok (h z rfl)).2, words_ne z⟩
  | none =>
    refine ⟨by decide, fun w hw => ?_, List.cons_ne_nil _ _⟩
    have : w = "" := List.mem_singleton.mp hw
    subst this
    exact ⟨by decide, by decide +kernel⟩

end K08

namespace K08
open PySem PySem.Spec PyProof.Rows L2 Evl
/-! ### the law's verdict on what is read is the package's (plain) -/
structure LwOk (st : QS) : Prop where
  tb : ∀ e ∈ st.tb, isName e.1 = true ∧ lawNames e.2 = true ∧ e.2.length ≤ 61
  sz : ∀ e ∈ st.sz, isName e.1 = true ∧ okInt e.2.1 ∧ okInt e.2.2
  gr : ∀ c, st.gr = some c → lawNames c = true ∧ c.length ≤ 61
theorem isName_ok {z : Str} (h : isName z = true) : z.length ≤ 8 ∧ PyData.strOk z = true := by
  refine ⟨isName_len h, strOk_iff.mpr fun c hc => ?_⟩
  unfold isName at h
  rw [Bool.and_eq_true] at h
  have h1 := of_decide_eq_true (List.all_eq_true.mp h.2 c hc)
  have h2 : ∀ d ∈ abc.cps.toList, d < 1114112 := by decide +kernel
  exact h2 c h1
theorem lawNames_ok {l : List Str} (h : lawNames l = true) : areNames l = true ∧ 1 ≤ l.length ∧ ∀ z ∈ l, z.length ≤ 8 ∧ PyData.strOk z = true := by
  unfold lawNames at h
  rw [Bool.and_eq_true] at h
  have h2 := h.2
  unfold areNames at h2
  rw [Bool.and_eq_true] at h2
  refine ⟨h.2, ?_, fun z hz => isName_ok (List.all_eq_true.mp h2.1 z hz)⟩
  cases l with
  | nil => simp at h
  | cons x r => simp
theorem setSort_nd {l : List Str} (h : l.Nodup) : (setSort l).length = l.length :=
  ((List.perm_ext_iff_of_nodup (asc_nodup (asc_setSort l)) h).mpr fun _ => mem_setSort).length_eq
theorem names_len {tb : Tabs0} (h : (tb.map (·.1)).Nodup) : (namesOf' tb).length = tb.length := by
  unfold namesOf'
  rw [setSort_nd h, List.length_map]
theorem mem_names {tb : Tabs0} {n : Str} : n ∈ namesOf' tb ↔ (tb.lookup n).isSome = true := by
  rw [isSome_mem, decide_eq_true_eq]
  exact mem_setSort
theorem cols_eq {tb : Tabs0} (h : (tb.map (·.1)).Nodup) : setSort (colsL tb (namesOf' tb)) = colsOf tb := by
  refine setSort_eq fun z => ?_
  unfold colsL
  rw [List.mem_flatMap, List.mem_flatMap]
  constructor
  · rintro ⟨n, hn, hz⟩
    obtain ⟨e, he, rfl⟩ := List.mem_map.mp (mem_setSort.mp hn)
    refine ⟨e, he, ?_⟩
    have := colOf_mem h he
    unfold colOf at this
    rw [this] at hz
    exact hz
  · rintro ⟨e, he, hz⟩
    refine ⟨e.1, mem_setSort.mpr (List.mem_map.mpr ⟨e, he, rfl⟩), ?_⟩
    have := colOf_mem h he
    unfold colOf at this
    rw [this]
    exact hz
def badSz (tb : Tabs0) (e : Str × (Int × Int)) : Bool := !decide (e.1 ∈ namesOf' tb) || (decide (9 * e.2.2 < e.2.1 * 1) || decide (60 < e.2.2))
def badOf (st : QS) : List Str :=
  (((st.sz.filter (badSz st.tb)).map (·.1) ++ (st.sz.filter fun e => decide (e.2.1 < 0)).map (·.1)) ++ (st.gr.getD []).filter fun c => !decide (c ∈ setSort (colsL st.tb (namesOf' st.tb)))) ++ (namesOf' st.tb).filter fun n => decide (6 < (colOf st.tb n).length)
def lawBad (st : QS) : Bool := !decide (badOf st = []) || (!(decide (1 ≤ (namesOf' st.tb).length) && decide ((namesOf' st.tb).length ≤ 6)) || decide (8 < (setSort (colsL st.tb (namesOf' st.tb))).length))
theorem badOf_nil {st : QS} (hn : (st.tb.map (·.1)).Nodup) : badOf st = [] ↔ (∀ e ∈ st.sz, (st.tb.lookup e.1).isSome = true ∧ isSize e.2 = true) ∧ (∀ c ∈ st.gr.getD [], c ∈ colsOf st.tb) ∧ ∀ e ∈ st.tb, e.2.length ≤ 6 := by
  unfold badOf
  rw [List.append_eq_nil_iff, List.append_eq_nil_iff, List.append_eq_nil_iff, List.map_eq_nil_iff, List.map_eq_nil_iff, List.filter_eq_nil_iff, List.filter_eq_nil_iff, List.filter_eq_nil_iff, List.filter_eq_nil_iff, cols_eq hn]
  constructor
  · rintro ⟨⟨⟨h1, h2⟩, h3⟩, h4⟩
    refine ⟨fun e he => ?_, fun c hc => by simpa using h3 c hc, fun e he => ?_⟩
    · have a1 := h1 e he
      have a2 := h2 e he
      unfold badSz at a1
      rw [Bool.not_eq_true, Bool.or_eq_false_iff, Bool.or_eq_false_iff] at a1
      obtain ⟨b1, b2, b3⟩ := a1
      have b1' : e.1 ∈ namesOf' st.tb := by simpa using b1
      have b2' := of_decide_eq_false b2
      have a2' : ¬ e.2.1 < 0 := fun z => a2 (decide_eq_true z)
      refine ⟨mem_names.mp b1', ?_⟩
      unfold isSize
      rw [b3, decide_eq_true (by omega : 0 ≤ e.2.1), decide_eq_true (by omega : e.2.1 ≤ 9 * e.2.2)]
      rfl
    · have := h4 e.1 (mem_setSort.mpr (List.mem_map.mpr ⟨e, he, rfl⟩))
      rw [colOf_mem hn he] at this
      simp at this
      omega
  · rintro ⟨h1, h2, h3⟩
    refine ⟨⟨⟨fun e he => ?_, fun e he => ?_⟩, fun c hc => by simpa using h2 c hc⟩, fun n hn' => ?_⟩
    · obtain ⟨a1, a2⟩ := h1 e he
      unfold isSize at a2
      simp only [Bool.and_eq_true, Bool.not_eq_true', decide_eq_true_eq] at a2
      unfold badSz
      rw [decide_eq_true (mem_names.mpr a1), a2.1, decide_eq_false (by omega : ¬ 9 * e.2.2 < e.2.1 * 1)]
      decide
    · obtain ⟨_, a2⟩ := h1 e he
      unfold isSize at a2
      simp only [Bool.and_eq_true, Bool.not_eq_true', decide_eq_true_eq] at a2
      simp
      omega
    · obtain ⟨e, he, rfl⟩ := List.mem_map.mp (mem_setSort.mp hn')
      rw [colOf_mem hn he]
      have := h3 e he
      simp
      omega
theorem verdict {st : QS} (hn : (st.tb.map (·.1)).Nodup) (ok : LwOk st) : lawBad st = !isParts st.tb (st.gr.getD []) st.sz := by
  have hg : areNames (st.gr.getD []) = true := by
    cases h : st.gr with
    | none => rfl
    | some c => exact (lawNames_ok (ok.gr c h).1).1
  have key : lawBad st = false ↔ isParts st.tb (st.gr.getD []) st.sz = true := by
    unfold lawBad isParts isTables
    rw [Bool.or_eq_false_iff, Bool.or_eq_false_iff, hg, names_len hn, cols_eq hn]
    simp only [Bool.and_eq_true, Bool.not_eq_false', decide_eq_true_eq, decide_eq_false_iff_not, badOf_nil hn, List.all_eq_true]
    constructor
    · rintro ⟨⟨h1, h2, h3⟩, ⟨h4, h5⟩, h6⟩
      refine ⟨⟨⟨⟨h4, h5⟩, fun e he => ⟨(ok.tb e he).1, ?_⟩, by omega⟩, trivial⟩, fun c hc => h2 c hc, fun e he => h1 e he⟩
      have a := lawNames_ok (ok.tb e he).2.1
      have b := h3 e he
      unfold areCols
      rw [a.1, decide_eq_true a.2.1, decide_eq_true b]
      rfl
    · rintro ⟨⟨⟨⟨h4, h5⟩, h3, h6⟩, _⟩, h2, h1⟩
      refine ⟨⟨fun e he => h1 e he, fun c hc => h2 c hc, fun e he => ?_⟩, ⟨h4, h5⟩, by omega⟩
      have a := (h3 e he).2
      unfold areCols at a
      simp only [Bool.and_eq_true, decide_eq_true_eq] at a
      exact a.2.2
  cases h : lawBad st with
  | false => rw [key.mp h]; rfl
  | true =>
    cases h2 : isParts st.tb (st.gr.getD []) st.sz with
    | false => rfl
    | true =>
      rw [key.mpr h2] at h
      cases h

end K08

namespace K08
open PySem PySem.Spec PyProof.Rows L2 Evl
/-! ### what the law's reading needs -/
section
variable {K : PySem.W.Frag} {w : World} {σ : L2.St} {H : Hp} {te ta tb tc td ty tv : TE} {D : Ends} {tz : TS} {P : V → Hp → Prop}
theorem q_lockAsg {i : Nat} (h : tSeq (tAsg (tLockE te) (gName i)) tz D σ H) : tSeq (tLock (tAsg te (gName i))) tz D σ H := h
/-- a, b, c = x, y, a new list -/
theorem q_asg3L {i1 i2 i3 : Nat} {x y : V} {zs : List V} (ha : Ev ta σ H x) (hb : Ev tb σ H y) (hc : EvL tc σ H zs) (k : ∀ r H1, H r = none → Ex H H1 → H1 r = some (.lst zs) → tz D (((σ.set i1 (some x)).set i2 (some y)).set i3 (some (.ref r))) H1) :
    tSeq (tPar3 i1 i2 i3 (tCons ta (tCons tb (tCons tc tNil)))) tz D σ H :=
  ha H (Ex.refl H) _ fun H1 e1 => hb H1 e1 _ fun H2 e2 => hc H2 (e1.trans e2) _ fun r H3 hr e3 hx => ⟨_, _, _, rfl, k r _ (fresh_back (e1.trans e2) hr) ((e1.trans e2).trans e3) hx⟩
theorem cut_drop (xs : List V) (k : Nat) : cutV xs (some (k : Int)) none = xs.drop k := by
  unfold cutV
  rw [HT.sIx_nat, HT.sIx_none]
  by_cases h : k ≤ xs.length
  · rw [Nat.min_eq_left h]
    exact List.take_of_length_le (by rw [List.length_drop]; exact Nat.le_refl _)
  · rw [Nat.min_eq_right (by omega), List.drop_length, List.take_nil, List.drop_of_length_le (by omega)]
theorem et_lawNames {l : List Str} (h : EvW te σ H (l.map V.str)) (h1 : l.length < 64) (h2 : ∀ z ∈ l, z.length ≤ 60 ∧ PyData.strOk z = true) : EvT (tB (tCl (sp__law_are_names K) (tCons te tNil))) σ H (lawNames l) := fun H1 e Q q =>
  h H1 e _ fun p H2 e2 hx => ⟨p, l, rfl, hx, h1, fun z hz => ⟨by have := (h2 z hz).1; omega, (h2 z hz).2⟩, fun H3 e3 => ⟨lawNames l, rfl, q H3 (e2.trans e3)⟩⟩
theorem eq_lawratio {tr : TA} {t : Str} (ha : EvA tr σ H [.str t]) (h1 : t.length ≤ 60) (h2 : PyData.strOk t = true) : EvQ (tCl (sp__law_ratio K) tr) σ H (fun v H' => lawR H' v (ratOf t)) := fun H1 e Q q =>
  ha H1 e _ fun H2 e2 => ⟨t, rfl, h1, h2, fun v H' e3 hv => q v H' (e2.trans e3) hv⟩
theorem et_isNQ {b : Bool} (h : EvQ te σ H P) (hb : ∀ v H', P v H' → decide (v = V.non) = b) : EvT (tTest (tOp rIsNn te (tC .non))) σ H b := fun H1 e Q q =>
  h H1 e _ fun v H2 e2 hv => ⟨rfl, b, by rw [hb v H2 hv], q H2 e2⟩
theorem lawR_non {H' : Hp} {v : V} {o : Option (Int × Int)} (h : lawR H' v o) : decide (v = V.non) = o.isNone := by
  cases o with
  | none =>
    have : v = .non := h
    subst this
    rfl
  | some z =>
    obtain ⟨t, rfl, _⟩ := h
    rfl
theorem s_dputQ {d : Addr} {l : List (Str × V)} {z : Str} (hd : ∀ H1, Ex H H1 → Ev td σ H1 (.ref d)) (hy : ∀ H1, Ex H H1 → Ev ty σ H1 (.str z)) (hv : EvQ tv σ H P) (h : H d = some (.dK (kS l))) (hl : l.lookup z = none) (hz : l.length < 100000) (k : ∀ v H1 H2, Ex H H1 → P v H1 → Ex H1 H2 → D.nx σ (upd H2 d (.dK (kS (l ++ [(z, v)]))))) : sDPut td ty tv D σ H :=
  hv H (Ex.refl H) _ fun v H1 e1 p => s_dput (D := D) (hd H1 e1) (hy H1 e1) (ev_c (v := v)) (e1 _ _ h) hl hz fun H2 e2 => k v H1 H2 e1 p e2
/-- an entry that stands is laid anew -/
theorem q_dputX {d : Addr} {l : List (Str × V)} {z : Str} (hd : ∀ H1, Ex H H1 → Ev td σ H1 (.ref d)) (hy : ∀ H1, Ex H H1 → Ev ty σ H1 (.str z)) (hv : EvQ tv σ H P) (h : H d = some (.dK (kS l))) (hz : l.length < 100000) (k : ∀ v H1 H2, Ex H H1 → P v H1 → Ex H1 H2 → tz D σ (upd H2 d (.dK (putK (kS l) (Sum.inr z) v)))) : tSeq (sDPut td ty tv) tz D σ H :=
  hv H (Ex.refl H) _ fun v H1 e1 p => hd H1 e1 H1 (Ex.refl H1) _ fun H2 e2 => hy H1 e1 H2 e2 _ fun H3 e3 => ⟨d, _, rfl, .inl ⟨kS l, Sum.inr z, e3 _ _ (e2 _ _ (e1 _ _ h)), rfl, by rw [kS_len]; exact sz_lt hz, rfl⟩, k v H1 H3 e1 p (e2.trans e3)⟩
theorem put_g {t g z v : V} : putK (kS [("tables", t), ("groups", g), ("sizes", z)]) (Sum.inr "groups") v = kS [("tables", t), ("groups", v), ("sizes", z)] := by
  have h1 : ¬ (("tables" : Str) = "groups") := by decide +kernel
  have h2 : ¬ (("sizes" : Str) = "groups") := by decide +kernel
  simp [putK, kS, h1, h2]
theorem put_z {t g z v : V} : putK (kS [("tables", t), ("groups", g), ("sizes", z)]) (Sum.inr "sizes") v = kS [("tables", t), ("groups", g), ("sizes", v)] := by
  have h1 : ¬ (("tables" : Str) = "sizes") := by decide +kernel
  have h2 : ¬ (("groups" : Str) = "sizes") := by decide +kernel
  simp [putK, kS, h1, h2]
theorem el_columns {d a : Addr} {p : P0} {ns : List Str} (ha : Ev ta σ H (.ref d)) (hb : Ev tb σ H (.ref a)) (hp : PlA H d p) (hs : SqL K H a (ns.map V.str)) (hin : ∀ n ∈ ns, (p.tb.lookup n).isSome) (hz : (colsL p.tb ns).length < 3000) : EvL (tCl (sp__law_columns K) (tCons ta (tCons tb tNil))) σ H ((setSort (colsL p.tb ns)).map V.str) := fun H1 e Q q =>
  ha H1 e _ fun H2 e2 => hb H2 (e.trans e2) _ fun H3 e3 => ⟨d, a, p, ns, rfl, hp.ex ((e.trans e2).trans e3), ex_l ((e.trans e2).trans e3) hs, hin, hz, fun l H' hl e4 hx => q l H' (fresh_back (e2.trans e3) hl) ((e2.trans e3).trans e4) hx⟩
theorem ok9 : okInt 9 := by
  unfold okInt
  decide +kernel
theorem ok1 : okInt 1 := by
  unfold okInt
  decide +kernel
/-- 9 < a ratio -/
theorem ev_less9 {t : Addr} {x y : Int} (ha : Ev ta σ H (.ref t)) (ht : H t = some (.tup [.int x, .int y])) (h1 : okInt x) (h2 : okInt y) : Ev (tCl (sp__law_less K) (tCons (tTup (tCons (tC (.int 9)) (tCons (tC (.int 1)) tNil))) (tCons ta tNil))) σ H (.bl (decide (9 * y < x * 1))) := fun H1 e Q q =>
  ⟨Nat.le_of_ble_eq_true rfl, fun p hp => by
    have e1 := Ex.new (H := H1) (o := .tup [.int 9, .int 1]) hp
    refine ha _ (e.trans e1) _ fun H2 e2 => ⟨p, t, 9, 1, x, y, rfl, SqT.of (e2 _ _ upd_same), SqT.of (((e.trans e1).trans e2) _ _ ht), ok9, ok1, h1, h2, fun H3 e3 => q H3 ((e1.trans e2).trans e3)⟩⟩
theorem ev_parse {n : Nat} (ha : Ev ta σ H (.int (n : Int))) (hn : n ≤ 1000) : Ev (tOp rCatS (tC (.str "parse ")) (tCB rReprI (tCons ta tNil))) σ H (.str ("parse " ++ toS (n : Int))) := by
  have hb : (n : Int).natAbs < 10 ^ 4 := by omega
  have hl := toS_len (by decide) hb
  refine ev_op ev_c (y := .str (toS (n : Int))) ?_ (rv_catS ?_)
  · intro H1 e Q q
    exact ha H1 e _ fun H2 e2 => ⟨(n : Int), rfl, log2_small (pow_mono hb (by decide)), q H2 e2⟩
  · show 6 + _ ≤ _
    omega
end
theorem filter_keys {α : Type} {m : List (Str × α)} (g : Str × α → Bool) (d : α) (hn : (m.map (·.1)).Nodup) : (m.map (·.1)).filter (fun n => g (n, (m.lookup n).getD d)) = (m.filter g).map (·.1) := by
  rw [List.filter_map]
  congr 1
  refine List.filter_congr fun e he => ?_
  show g (e.1, (m.lookup e.1).getD d) = g e
  rw [mem_lookup (v := e.2) hn he]
  rfl
theorem lstR_upd {H : Hp} {v : V} {c : List Str} {D : Addr} {o u : HO} (hD : H D = some o) (ho : ∀ xs, o ≠ .lst xs) (h : lstR H v c) : lstR (upd H D u) v c := by
  obtain ⟨t, h1, h2⟩ := h
  exact ⟨t, h1, by rw [upd_ne (fun z => by subst z; rw [h2] at hD; exact ho _ (Option.some.inj hD).symm)]; exact h2⟩

end K08

namespace K08
open PySem PySem.Spec PyProof.Rows L2 Evl
/-! ### _law_read: its parts -/
def ResR (H : Hp) (v : V) : Res → Prop
  | .parse i => v = .str ("parse " ++ toS (i : Int))
  | .question => v = .str "question"
  | .lines ls => lstR H v ls
def sp__law_read (K : PySem.W.Frag) : Sp := fun vs H Q _ => ∃ (p : Addr) (xs : List V) (os : List (Option Str)), vs = [.ref p] ∧ SqL K H p xs ∧ LnsR K H xs os ∧ xs.length ≤ 20 ∧ ∀ v H', Ex H H' → ResR H' v (toldOf os) → Q v H'
theorem len__law_read {K : PySem.W.Frag} : ∀ vs H Q E, sp__law_read K vs H Q E → vs.length = 1 := fun vs H Q E ⟨_, _, _, e, _⟩ => by rw [e]; rfl
def grL (H : Hp) (v : V) : Option (List Str) → Prop
  | none => v = .non
  | some c => lstR H v c
/-- what the reading holds -/
structure RdA (H : Hp) (d t g z s : Addr) (gv : V) (st : QS) : Prop where
  fd : H d = some (.dK (kS [("tables", .ref t), ("groups", .ref g), ("sizes", .ref z)]))
  ft : ∃ l, H t = some (.dK (kS l)) ∧ RelR lstR H l st.tb
  fg : H g = some (.lst [])
  fz : H z = some (.dK [])
  fs : ∃ l, H s = some (.dK (kS l)) ∧ RelR pairR H l st.sz
  fr : grL H gv st.gr
theorem RdA.ex {H H' : Hp} {d t g z s : Addr} {gv : V} {st : QS} (e : Ex H H') (h : RdA H d t g z s gv st) : RdA H' d t g z s gv st := by
  obtain ⟨h1, ⟨l, h2, h3⟩, h4, h5, ⟨l2, h6, h7⟩, h8⟩ := h
  refine ⟨e _ _ h1, ⟨l, e _ _ h2, h3.mono (lstR_ex e)⟩, e _ _ h4, e _ _ h5, ⟨l2, e _ _ h6, h7.mono (pairR_ex e)⟩, ?_⟩
  cases hg : st.gr with
  | none =>
    rw [hg] at h8
    exact h8
  | some c =>
    rw [hg] at h8
    exact lstR_ex e _ _ h8
structure RdN (H0 : Hp) (d t z s : Addr) : Prop where
  nd : H0 d = none
  nt : H0 t = none
  ns : H0 s = none
  dt : d ≠ t
  ds : d ≠ s
  ts : t ≠ s
  zt : z ≠ t
  zs : z ≠ s
theorem head_at {w : Str} {r : List Str} : atI ((w :: r).map V.str) 0 = some (.str w) := atI_nat (i := 0) rfl
abbrev rdSt (p d s : Addr) (gv : V) (x4 x5 x6 x7 x8 x9 : Option V) : L2.St := [some (.ref p), some (.ref d), some (.ref s), some gv, x4, x5, x6, x7, x8, x9, none, none, none, none]
theorem rd_start {K : PySem.W.Frag} {p : Addr} {H : Hp} {D : Ends} {tz : TS} (k : ∀ d t g z s H1, RdN H d t z s → Ex H H1 → RdA H1 d t g z s .non qs0 → tz D (rdSt p d s .non none none none none none none) H1) :
    tSeq (tAsg (tTup (tCons (tDisp [((tC (.str "tables")), tDNewK), ((tC (.str "groups")), (tLst tNil)), ((tC (.str "sizes")), tDNewK)]) (tCons tDNewK (tCons (tC .non) tNil)))) (gTup K 3 (gCons (gName 1) (gCons (gName 2) (gCons (gName 3) gNil))))) tz D (start ["_law_lines_here", "_law_plain_here", "_law_sizes", "_law_groups", "_law_at", "_law_line", "_law_words", "_law_word", "_law_name", "_law_rest", "_law_names_here", "_law_columns_here", "_law_bad", "_law_column"] [.ref p]) H := by
  intro d hd
  intro t ht
  refine ⟨Nat.zero_le _, fun g hg z hz => ?_⟩
  have h1 : Ex H (upd H d (.dK [])) := Ex.new hd
  have h2 := Ex.new (H := upd H d (.dK [])) (o := .dK []) ht
  have h3 := Ex.new (H := upd (upd H d (.dK [])) t (.dK [])) (o := .lst []) hg
  have h4 := Ex.new (H := upd (upd (upd H d (.dK [])) t (.dK [])) g (.lst [])) (o := .dK []) hz
  have hdt : d ≠ t := fun e => by subst e; rw [upd_same] at ht; cases ht
  have hd4 : upd (upd (upd (upd H d (.dK [])) t (.dK [])) g (.lst [])) z (.dK []) d = some (.dK []) := h4 _ _ (h3 _ _ (h2 _ _ upd_same))
  refine ⟨hd4, [(Sum.inr "tables", .ref t), (Sum.inr "groups", .ref g), (Sum.inr "sizes", .ref z)], rfl, Nat.le_of_ble_eq_true rfl, fun s hs => ⟨Nat.le_of_ble_eq_true rfl, fun a ha => ⟨a, _, rfl, SqT.of upd_same, rfl, _, _, rfl, _, _, rfl, _, _, rfl, rfl, ?_⟩⟩⟩
  have hm : mergeK [] [(Sum.inr "tables", .ref t), (Sum.inr "groups", .ref g), (Sum.inr "sizes", .ref z)] = kS [("tables", .ref t), ("groups", .ref g), ("sizes", .ref z)] := mergeK_new [("tables", .ref t), ("groups", .ref g), ("sizes", .ref z)] (show ([("tables" : Str), "groups", "sizes"]).Nodup by decide)
  rw [hm] at hs ha ⊢
  have hds : d ≠ s := fun e => by subst e; rw [upd_same] at hs; cases hs
  have hs4 : upd (upd (upd (upd H d (.dK [])) t (.dK [])) g (.lst [])) z (.dK []) s = none := by rw [upd_ne (Ne.symm hds)] at hs; exact hs
  have ht4 : upd (upd (upd (upd H d (.dK [])) t (.dK [])) g (.lst [])) z (.dK []) t = some (.dK []) := h4 _ _ (h3 _ _ upd_same)
  have hg4 : upd (upd (upd (upd H d (.dK [])) t (.dK [])) g (.lst [])) z (.dK []) g = some (.lst []) := h4 _ _ upd_same
  have hts : t ≠ s := fun e => by subst e; rw [ht4] at hs4; cases hs4
  have hgd : g ≠ d := fun e => by subst e; rw [hd4] at hg4; cases hg4
  have hzd : z ≠ d := fun e => by
    subst e
    have := h3 _ _ (h2 _ _ (upd_same (H := H) (a := z) (o := .dK [])))
    rw [this] at hz; cases hz
  have hzt : z ≠ t := fun e => by
    subst e
    have := h3 _ _ (upd_same (H := upd H d (.dK [])) (a := z) (o := .dK []))
    rw [this] at hz; cases hz
  have hzs : z ≠ s := fun e => by
    subst e
    rw [upd_same] at hs4; cases hs4
  have h04 := ((h1.trans h2).trans h3).trans h4
  have ht0 : H t = none := by
    cases hh : H t with
    | none => rfl
    | some o => rw [h1 _ _ hh] at ht; cases ht
  have hs0 : H s = none := fresh_back h04 hs4
  have e5 : Ex H (upd (upd (upd (upd (upd H d (.dK [])) t (.dK [])) g (.lst [])) z (.dK [])) d (.dK (kS [("tables", .ref t), ("groups", .ref g), ("sizes", .ref z)]))) := h04.mut hd
  have e6 := Ex.new (o := .dK []) hs
  have e7 := Ex.new (o := .tup [.ref d, .ref s, .non]) ha
  refine k d t g z s _ ⟨hd, ht0, hs0, hdt, hds, hts, hzt, hzs⟩ ((e5.trans e6).trans e7) ⟨e7 _ _ (e6 _ _ upd_same), ⟨[], e7 _ _ (e6 _ _ (by rw [upd_ne (Ne.symm hdt)]; exact ht4)), .nil⟩, e7 _ _ (e6 _ _ (by rw [upd_ne hgd]; exact hg4)), e7 _ _ (e6 _ _ (by rw [upd_ne hzd, upd_same])), ⟨[], e7 _ _ upd_same, .nil⟩, rfl⟩
theorem q_forEnumL {K : PySem.W.Frag} {σ : L2.St} {H : Hp} {a : Addr} {xs : List V} {i1 i2 : Nat} {ta : TA} {D : Ends} {tu tz : TS} (h : EvA ta σ H [.ref a]) (hx : SqL K H a xs) (Pv : Nat → L2.St → Hp → Prop) (h0 : ∀ H1, Ex H H1 → Pv 0 σ H1) (hG : ∀ i σ' H', Pv i σ' H' → SqL K H' a xs)
    (hs : ∀ i x σ' H' T, xs[i]? = some x → H' T = none → Pv i σ' H' → tu { D with nx := Pv (i + 1), ct := Pv (i + 1), bk := tz D } ((σ'.set i1 (some (.int (i : Nat)))).set i2 (some x)) (upd H' T (.tup [.int (i : Nat), x]))) (hd : ∀ σ' H', Pv xs.length σ' H' → tz D σ' H') :
    tSeq (tFor (iEnum K ta) (gTup K 2 (gCons (gName i1) (gCons (gName i2) gNil))) tu) tz D σ H :=
  h H (Ex.refl H) _ fun H1 e1 => ⟨a, xs, rfl, ex_l e1 hx, for_it walk_enum Pv (h0 H1 e1) (fun i σ' H' _ p => hG i σ' H' p) (fun i v σ' H' H'' hi p y => by
    obtain ⟨T', u, x, rfl, hn, rfl, hu, hxi⟩ := y
    cases hu
    exact ⟨T', _, rfl, SqT.of upd_same, rfl, _, _, rfl, _, _, rfl, rfl, hs i x σ' H' T' hxi hn p⟩) hd⟩
/-- what stands before line i -/
structure RdP (K : PySem.W.Frag) (H0 H : Hp) (d t g z s : Addr) (gv : V) (st : QS) (i : Nat) (os : List (Option Str)) : Prop where
  e : Ex H0 H
  A : RdA H d t g z s gv st
  run : takeAll qs0 0 os = takeAll st i (os.drop i)
  ok : QsOk st i
  lw : LwOk st
theorem grL_upd {H : Hp} {v : V} {x : Option (List Str)} {D : Addr} {o u : HO} (hD : H D = some o) (ho : ∀ xs, o ≠ .lst xs) (h : grL H v x) : grL (upd H D u) v x := by
  cases x with
  | none => exact h
  | some c => exact lstR_upd hD ho h
theorem raw_dk {l : List (Str × V)} : ∀ xs, HO.dK (kS l) ≠ .lst xs := fun _ z => nomatch z
theorem raw_dkT {l : List (Str × V)} : ∀ xs, HO.dK (kS l) ≠ .tup xs := fun _ z => nomatch z
theorem RdA.putT {H : Hp} {d t g z s : Addr} {gv : V} {st : QS} {n : Str} {c : List Str} {r : Addr} {l : List (Str × V)} (h : RdA H d t g z s gv st) (hdt : d ≠ t) (hts : t ≠ s) (ht : H t = some (.dK (kS l))) (hl : RelR lstR H l st.tb) (hr : H r = some (.lst (c.map V.str))) (hz : z ≠ t) :
    RdA (upd H t (.dK (kS (l ++ [(n, .ref r)])))) d t g z s gv { st with tb := st.tb ++ [(n, c)] } := by
  obtain ⟨h1, _, h4, h5, ⟨l2, h6, h7⟩, h8⟩ := h
  have hgt : g ≠ t := fun e => by subst e; rw [ht] at h4; cases h4
  refine ⟨by rw [upd_ne hdt]; exact h1, ⟨_, upd_same, ?_⟩, by rw [upd_ne hgt]; exact h4, by rw [upd_ne hz]; exact h5, ⟨l2, by rw [upd_ne (Ne.symm hts)]; exact h6, h7.mono fun v a q => pairR_upd ht raw_dkT q⟩, grL_upd ht raw_dk h8⟩
  exact (hl.mono fun v a q => lstR_upd ht raw_dk q).snoc (lstR_upd ht raw_dk ⟨r, rfl, hr⟩)
theorem RdA.putS {H : Hp} {d t g z s : Addr} {gv : V} {st : QS} {n : Str} {y : Int × Int} {v : V} {l : List (Str × V)} (h : RdA H d t g z s gv st) (hds : d ≠ s) (hts : t ≠ s) (hs : H s = some (.dK (kS l))) (hl : RelR pairR H l st.sz) (hv : pairR H v y) (hz : z ≠ s) :
    RdA (upd H s (.dK (kS (l ++ [(n, v)])))) d t g z s gv { st with sz := st.sz ++ [(n, y)] } := by
  obtain ⟨h1, ⟨l1, h2, h3⟩, h4, h5, _, h8⟩ := h
  have hgs : g ≠ s := fun e => by subst e; rw [hs] at h4; cases h4
  refine ⟨by rw [upd_ne hds]; exact h1, ⟨l1, by rw [upd_ne hts]; exact h2, h3.mono fun v a q => lstR_upd hs raw_dk q⟩, by rw [upd_ne hgs]; exact h4, by rw [upd_ne hz]; exact h5, ⟨_, upd_same, ?_⟩, grL_upd hs raw_dk h8⟩
  exact (hl.mono fun v a q => pairR_upd hs raw_dkT q).snoc (pairR_upd hs raw_dkT hv)
theorem spv_lawNames {K : PySem.W.Frag} {H : Hp} {a : Addr} {l : List Str} (ha : H a = some (.lst (l.map V.str))) (h1 : l.length < 64) (h2 : ∀ z ∈ l, z.length ≤ 60 ∧ PyData.strOk z = true) : SpV (sp__law_are_names K) [.ref a] H (.bl (lawNames l)) := fun H1 e Q q E => ⟨a, l, rfl, e _ _ ha, h1, fun z hz => ⟨by have := (h2 z hz).1; omega, (h2 z hz).2⟩, q⟩
theorem rd_step {K : PySem.W.Frag} {H0 H : Hp} {p d t g z s : Addr} {gv x : V} {st : QS} {i : Nat} {os : List (Option Str)} {o : Option Str} {x6 x7 x8 x9 : Option V} {D : Ends} (hN : RdN H0 d t z s) (h : RdP K H0 H d t g z s gv st i os) (ho : os[i]? = some o) (hx : LnR K H x o) (hi : i < 20)
    (hnx : ∀ gv st x4 x5 x6 x7 x8 x9 H', RdP K H0 H' d t g z s gv st (i + 1) os → D.nx (rdSt p d s gv x4 x5 x6 x7 x8 x9) H') (hrt : ∀ H', Ex H0 H' → toldOf os = .parse i → D.rt (.str ("parse " ++ toS (i : Int))) H') :
    (tSeq (tAsg (tIf (tB (tCB (rIsi K) (tCons (tVar 5) (tCons (tC (.ty "str")) tNil)))) (tM1 rSplit (tVar 5) (tC (.str " "))) (tLst (tCons (tC (.str "")) tNil))) (gName 6)) (tSeq (tPar3 7 8 9 (tCons (tOp (rIxL K) (tVar 6) (tC (.int 0))) (tCons (tIf (tTest (tOp rGtI (tCB (rLenS K) (tCons (tVar 6) tNil)) (tC (.int 1)))) (tOp (rIxL K) (tVar 6) (tC (.int 1))) (tC (.str ""))) (tCons (L2.tSl (rSlL K) (tVar 6) (tPart (tC (.int 2))) tNoPart) tNil)))) (tIfS (tAnd (tTest (tOp rEq (tVar 7) (tC (.str "table")))) (tAnd (tB (tCl sp__law_is_name (tCons (tVar 8) tNil))) (tAnd (tB (tCl (sp__law_are_names K) (tCons (tVar 9) tNil))) (tB (tDNotIn (tVar 8) (tDGet (tVar 1) (tC (.str "tables")))))))) (sDPut (tDGet (tVar 1) (tC (.str "tables"))) (tVar 8) (tVar 9)) (tIfS (tAnd (tTest (tOp rEq (tVar 7) (tC (.str "size")))) (tAnd (tTest (tOp rEq (tCB (rLenS K) (tCons (tVar 6) tNil)) (tC (.int 3)))) (tAnd (tB (tCl sp__law_is_name (tCons (tVar 8) tNil))) (tB (tDNotIn (tVar 8) (tVar 2)))))) (tSeq (tIfS (tTest (tOp rIsNn (tCl (sp__law_ratio K) (tCons (tOp (rIxL K) (tVar 9) (tC (.int 0))) tNil)) (tC .non))) (tRet (tOp rCatS (tC (.str "parse ")) (tCB rReprI (tCons (tVar 4) tNil)))) tNext) (sDPut (tVar 2) (tVar 8) (tCl (sp__law_ratio K) (tCons (tOp (rIxL K) (tVar 9) (tC (.int 0))) tNil)))) (tIfS (tAnd (tTest (tOp rEq (tVar 7) (tC (.str "group")))) (tAnd (tB (tCl (sp__law_are_names K) (tCons (L2.tSl (rSlL K) (tVar 6) (tPart (tC (.int 1))) tNoPart) tNil))) (tTest (tOp rIsNn (tVar 3) (tC .non))))) (tAsg (L2.tSl (rSlL K) (tVar 6) (tPart (tC (.int 1))) tNoPart) (gName 3)) (tRet (tOp rCatS (tC (.str "parse ")) (tCB rReprI (tCons (tVar 4) tNil))))))))) D (rdSt p d s gv (some (.int (i : Nat))) (some x) x6 x7 x8 x9) H := by
  have lnok : ∀ y, o = some y → lnOk y := fun y e => by
    subst e
    exact hx.2
  obtain ⟨wl, wk, wn⟩ := wsOf_ok lnok
  have hdrop : os.drop i = o :: os.drop (i + 1) := by
    obtain ⟨hlt, e⟩ := List.getElem?_eq_some_iff.mp ho
    rw [← e, List.getElem_cons_drop]
  have hwords : EvL (tIf (tB (tCB (rIsi K) (tCons (tVar 5) (tCons (tC (.ty "str")) tNil)))) (tM1 rSplit (tVar 5) (tC (.str " "))) (tLst (tCons (tC (.str "")) tNil))) (rdSt p d s gv (some (.int (i : Nat))) (some x) x6 x7 x8 x9) H ((wsOf o).map V.str) := by
    cases o with
    | some y =>
      obtain ⟨rfl, hy⟩ := hx
      exact el_if (b := true) (et_B (ev_isi (ev_var rfl) ev_c (.ty _) (fun _ _ => .base (.str y)) (kit_ty (r := true) (by decide +kernel)))) (fun _ => el_split (ev_var rfl) ev_c rfl (by have := hy.1; omega)) (fun h => nomatch h)
    | none =>
      obtain ⟨ty, h1, h2⟩ := hx
      exact el_if (b := false) (et_B (ev_isi (ev_var rfl) ev_c (.ty _) h1 h2)) (fun h => nomatch h) (fun _ => el_lst (ea_cons ev_c ea_nil) (Nat.le_of_ble_eq_true rfl))
  have hst : ∀ st', stepWords st (wsOf o) = some st' → takeAll qs0 0 os = takeAll st' (i + 1) (os.drop (i + 1)) ∧ QsOk st' (i + 1) := fun st' e => by
    rw [← stepLine_ws] at e
    exact ⟨by rw [h.run, hdrop, takeAll, e], stepLine_ok h.ok lnok e⟩
  have hno : stepWords st (wsOf o) = none → toldOf os = .parse i := fun e => by
    rw [← stepLine_ws] at e
    unfold toldOf
    rw [h.run, hdrop, takeAll, e]
    rfl
  generalize wsOf o = ws at *
  obtain ⟨w, r, rfl⟩ : ∃ w r, ws = w :: r := by
    cases ws with
    | nil => exact absurd rfl wn
    | cons w r => exact ⟨w, r, rfl⟩
  have rk : ∀ y ∈ r, y.length ≤ 60 ∧ PyData.strOk y = true := fun y hy => wk y (List.mem_cons_of_mem _ hy)
  have rl : r.length ≤ 60 := by simp only [List.length_cons] at wl; omega
  have nk : (nameIn r).length ≤ 60 := by
    cases r with
    | nil => exact Nat.zero_le _
    | cons n c => exact (rk n List.mem_cons_self).1
  have ck : ∀ y ∈ r.drop 1, y.length ≤ 60 ∧ PyData.strOk y = true := fun y hy => rk y (List.mem_of_mem_drop hy)
  have cl : (r.drop 1).length ≤ 60 := by rw [List.length_drop]; omega
  refine q_asgL hwords fun wp H1 hwp e1 hw => ?_
  have cut2 : cutV ((w :: r).map V.str) (some 2) none = (r.drop 1).map V.str := (cut_drop _ 2).trans (by rw [List.map_cons, List.map_drop]; rfl)
  have cut1 : cutV ((w :: r).map V.str) (some 1) none = r.map V.str := (cut_drop _ 1).trans (by rw [List.map_cons]; rfl)
  refine q_asg3L (x := .str w) (y := .str (nameIn r)) (zs := (r.drop 1).map V.str) (ev_op (ev_var rfl) ev_c (rv_ixL (SqL.of hw) head_at)) (ev_if (et_test (ev_op (ev_len (ev_var rfl) (SqL.of hw)) ev_c rv_I0)) (fun hb => ?_) (fun hb => ?_)) (by
    have := el_sl (K := K) (te := tVar 6) (σ := (rdSt p d s gv (some (.int (i : Nat))) (some x) x6 x7 x8 x9).set 6 (some (.ref wp))) (H := H1) (ev_var rfl) (eo_some (ev_c (v := .int 2))) eo_none (SqL.of hw)
    rw [cut2] at this
    exact this) fun rp H2 hrp e2 hrest => ?_
  · cases r with
    | nil => simp at hb
    | cons n c => exact ev_op (ev_var rfl) ev_c (rv_ixL (SqL.of hw) (atI_nat (i := 1) rfl))
  · cases r with
    | nil => exact ev_c
    | cons n c =>
      exfalso
      simp only [List.map_cons, List.length_cons, List.length_map] at hb
      have := of_decide_eq_false hb
      omega
  have hA2 := h.A.ex (e1.trans e2)
  have e02 := (h.e.trans e1).trans e2
  obtain ⟨l, ht, hl⟩ := hA2.ft
  obtain ⟨l2, hs, hl2⟩ := hA2.fs
  refine s_if (b := tabIf st w r) (et_and (et_is (et_test (ev_op (ev_var rfl) ev_c (rv_eq rfl))) str_eq_bl) fun _ => et_and (et_B (ev_cl (ea_cons (ev_var rfl) ea_nil) (spv_is_name (by omega)))) fun _ => et_and (et_B (ev_cl (ea_cons (ev_var rfl) ea_nil) (spv_lawNames hrest (by omega) ck))) fun _ => et_is (et_B (ev_dnotin (ev_var rfl) (ev_dget (ev_var rfl) ev_c (.inl hA2.fd) lk_t) (.inl ht))) (by rw [hl.isSome])) (fun hb H3 e3 => ?_) (fun hb H3 e3 => ?_)
  · have hT := step_table hb
    obtain ⟨k1, k2⟩ := hst _ hT
    have hA3 := hA2.ex e3
    have hl3 := hl.mono (lstR_ex e3)
    have hlk : l.lookup (nameIn r) = none := by
      unfold tabIf at hb
      simp only [Bool.and_eq_true, Bool.not_eq_true'] at hb
      have := hl.isSome (z := nameIn r)
      rw [hb.2.2.2] at this
      cases hh : l.lookup (nameIn r) with
      | none => rfl
      | some v => rw [hh] at this; cases this
    refine s_dput (ev_dget (ev_var rfl) ev_c (.inl hA3.fd) lk_t) (ev_var rfl) (ev_var rfl) (e3 _ _ ht) hlk (by have := hl.len; have := h.ok.t; omega) fun H4 e4 => ?_
    have e04 := (e02.trans e3).trans e4
    refine hnx gv _ _ _ _ _ _ _ _ ⟨e04.mut hN.nt, (hA3.ex e4).putT hN.dt hN.ts (e4 _ _ (e3 _ _ ht)) (hl3.mono (lstR_ex e4)) ((e3.trans e4) _ _ hrest) hN.zt, k1, k2, ?_⟩
    unfold tabIf at hb
    simp only [Bool.and_eq_true] at hb
    refine ⟨fun e he => ?_, h.lw.sz, h.lw.gr⟩
    rcases List.mem_append.mp he with he | he
    · exact h.lw.tb e he
    · rw [List.mem_singleton.mp he]
      exact ⟨hb.2.1, hb.2.2.1, Nat.le_trans cl (by decide)⟩
  have hA3 := hA2.ex e3
  have hs3 := e3 _ _ hs
  have hl23 := hl2.mono (pairR_ex e3)
  have e03 := e02.trans e3
  have hr3 := e3 _ _ hrest
  have hw3 := e3 _ _ (e2 _ _ hw)
  refine s_if (b := sizIf st w r) (et_and (et_is (et_test (ev_op (ev_var rfl) ev_c (rv_eq rfl))) str_eq_bl) fun _ => et_and (et_is (et_test (ev_op (ev_len (ev_var rfl) (SqL.of hw3)) ev_c (rv_eq rfl))) (by
    rw [int_eq_bl, List.length_map, List.length_cons]
    exact decide_eq_decide.mpr ⟨fun q => by omega, fun q => by omega⟩)) fun _ => et_and (et_B (ev_cl (ea_cons (ev_var rfl) ea_nil) (spv_is_name (by omega)))) fun _ => et_is (et_B (ev_dnotin (ev_var rfl) (ev_var rfl) (.inl hs3))) (by rw [hl23.isSome])) (fun hb2 H4 e4 => ?_) (fun hb2 H4 e4 => ?_)
  · have hS := step_size hb2
    have hb2' := hb2
    unfold sizIf at hb2'
    simp only [Bool.and_eq_true, Bool.not_eq_true', decide_eq_true_eq] at hb2'
    obtain ⟨q1, q2, q3, q4⟩ := hb2'
    match r, q2 with
    | [n, tx], _ =>
      have htx := rk tx (List.mem_cons_of_mem _ List.mem_cons_self)
      have hrat : ∀ {H5 : Hp}, Ex H4 H5 → EvQ (tCl (sp__law_ratio K) (tCons (tOp (rIxL K) (tVar 9) (tC (.int 0))) tNil)) ((((((rdSt p d s gv (some (.int (i : Nat))) (some x) x6 x7 x8 x9).set 6 (some (.ref wp))).set 7 (some (.str w))).set 8 (some (.str (nameIn [n, tx])))).set 9 (some (.ref rp)))) H5 (fun v H' => lawR H' v (ratOf tx)) := fun e5 => eq_lawratio (ea_cons (ev_op (ev_var rfl) ev_c (rv_ixL (SqL.of (e5 _ _ (e4 _ _ hr3))) head_at)) ea_nil) htx.1 htx.2
      refine q_when (et_isNQ (hrat (Ex.refl _)) fun v H' hv => lawR_non hv) (fun hb3 H5 e5 => ?_) (fun hb3 H5 e5 => ?_)
      · refine s_ret (ev_parse (ev_var rfl) (by omega)) fun H6 e6 => hrt H6 (((e03.trans e4).trans e5).trans e6) (hno ?_)
        rw [hS]
        cases hr : ratOf tx with
        | none =>
          show (ratOf tx).map _ = _
          rw [hr]
          rfl
        | some y => rw [hr] at hb3; cases hb3
      · cases hr : ratOf tx with
        | none => rw [hr] at hb3; cases hb3
        | some y =>
          have hS' : stepWords st [w, n, tx] = some { st with sz := st.sz ++ [(nameIn [n, tx], y)] } := by
            rw [hS]
            show (ratOf tx).map _ = _
            rw [hr]
            rfl
          obtain ⟨k1, k2⟩ := hst _ hS'
          have e45 := e4.trans e5
          have hA5 := hA3.ex e45
          have hlk : l2.lookup (nameIn [n, tx]) = none := by
            have := hl2.isSome (z := nameIn [n, tx])
            rw [q4] at this
            cases hh : l2.lookup (nameIn [n, tx]) with
            | none => rfl
            | some v => rw [hh] at this; cases this
          have hq := hrat (H5 := H5) e5
          rw [hr] at hq
          refine s_dputQ (fun _ _ => ev_var rfl) (fun _ _ => ev_var rfl) hq (e45 _ _ hs3) hlk (by have := hl2.len; have := h.ok.z; omega) fun v H6 H7 e6 hv e7 => ?_
          have e67 := e6.trans e7
          have hv7 : pairR H7 v y := pairR_ex e7 _ _ hv
          refine hnx gv _ _ _ _ _ _ _ _ ⟨((e03.trans e45).trans e67).mut hN.ns, (hA5.ex e67).putS hN.ds hN.ts (e67 _ _ (e45 _ _ hs3)) (hl23.mono (pairR_ex (e45.trans e67))) hv7 hN.zs, k1, k2, ?_⟩
          refine ⟨h.lw.tb, fun e he => ?_, h.lw.gr⟩
          rcases List.mem_append.mp he with he | he
          · exact h.lw.sz e he
          · rw [List.mem_singleton.mp he]
            have hR : RatT tx y.1 y.2 := ratOf_is hr
            have hlen : (ratText y.1 y.2).length ≤ 60 := by rw [← hR.2.2]; exact htx.1
            obtain ⟨t1, t2⟩ := ratText_toS hlen
            refine ⟨q3, okInt_of60 (toS_60 t1), ?_⟩
            rcases t2 with t2 | t2
            · show okInt y.2
              rw [t2]
              exact ok1
            · exact okInt_of60 (toS_60 t2)
  have hgr : ∀ {H5 : Hp}, EvQ (tVar 3) ((((((rdSt p d s gv (some (.int (i : Nat))) (some x) x6 x7 x8 x9).set 6 (some (.ref wp))).set 7 (some (.str w))).set 8 (some (.str (nameIn r)))).set 9 (some (.ref rp)))) H5 (fun v _ => v = gv) := Ev.q (ev_var rfl)
  have hsl : EvL (L2.tSl (rSlL K) (tVar 6) (tPart (tC (.int 1))) tNoPart) ((((((rdSt p d s gv (some (.int (i : Nat))) (some x) x6 x7 x8 x9).set 6 (some (.ref wp))).set 7 (some (.str w))).set 8 (some (.str (nameIn r)))).set 9 (some (.ref rp)))) H4 (r.map V.str) := by
    have := el_sl (K := K) (te := tVar 6) (σ := ((((((rdSt p d s gv (some (.int (i : Nat))) (some x) x6 x7 x8 x9).set 6 (some (.ref wp))).set 7 (some (.str w))).set 8 (some (.str (nameIn r)))).set 9 (some (.ref rp))))) (H := H4) (ev_var rfl) (eo_some (ev_c (v := .int 1))) eo_none (SqL.of (e4 _ _ hw3))
    rw [cut1] at this
    exact this
  refine s_if (b := grpIf st w r) (et_and (et_is (et_test (ev_op (ev_var rfl) ev_c (rv_eq rfl))) str_eq_bl) fun _ => et_and (et_lawNames (ew_new hsl) (by omega) rk) fun _ => et_isNQ hgr fun v H' hv => ?_) (fun hb3 H5 e5 => ?_) (fun hb3 H5 e5 => ?_)
  · subst hv
    have := h.A.fr
    cases hg : st.gr with
    | none =>
      rw [hg] at this
      have : v = .non := this
      subst this
      rfl
    | some c =>
      rw [hg] at this
      obtain ⟨y, rfl, _⟩ := this
      rfl
  · have hG := step_group hb3
    obtain ⟨k1, k2⟩ := hst _ hG
    refine s_asgL (fun H6 e6 => hsl H6 (e5.trans e6)) fun gp H6 hgp e6 hx6 => ?_
    have hA6 := hA3.ex ((e4.trans e5).trans e6)
    refine hnx (.ref gp) { st with gr := some r } _ _ _ _ _ _ _ ⟨((e03.trans e4).trans e5).trans e6, ⟨hA6.fd, hA6.ft, hA6.fg, hA6.fz, hA6.fs, ⟨gp, rfl, hx6⟩⟩, k1, k2, ⟨h.lw.tb, h.lw.sz, fun c hc => ?_⟩⟩
    cases hc
    unfold grpIf at hb3
    simp only [Bool.and_eq_true] at hb3
    exact ⟨hb3.2.1, Nat.le_trans rl (by decide)⟩
  · exact s_ret (ev_parse (ev_var rfl) (by omega)) fun H6 e6 => hrt H6 (((e03.trans e4).trans e5).trans e6) (hno (step_none hb hb2 hb3))
theorem eq_if {t : TT} {ta tb : TE} {σ : L2.St} {H : Hp} {P : V → Hp → Prop} {b : Bool} (h : EvT t σ H b) (h1 : b = true → EvQ ta σ H P) (h2 : b = false → EvQ tb σ H P) : EvQ (tIf t ta tb) σ H P := fun H1 e Q q => h H1 e _ fun H2 e2 => by
  cases b with
  | true => exact h1 rfl H2 (e.trans e2) Q fun v H3 e3 hv => q v H3 (e2.trans e3) hv
  | false => exact h2 rfl H2 (e.trans e2) Q fun v H3 e3 hv => q v H3 (e2.trans e3) hv
theorem eq_get2 {σ : L2.St} {H : Hp} {td ty : TE} {d : Addr} {l : List (Str × V)} {m : Sizs0} {z : Str} (hd : Ev td σ H (.ref d)) (hy : Ev ty σ H (.str z)) (h : DS H d l) (hr : RelR pairR H l m) : EvQ (tDGet2 td ty (tTup (tCons (tC (.int 1)) (tCons (tC (.int 1)) tNil)))) σ H (fun v H' => pairR H' v ((m.lookup z).getD (1, 1))) := fun H1 e Q q =>
  hd H1 e _ fun H2 e2 => ⟨d, rfl, .inl ⟨_, ds_ex (e.trans e2) h⟩, hy H2 (e.trans e2) _ fun H3 e3 => eq_one1 H3 (Ex.refl H3) _ fun x H4 e4 hx => by
    have e04 := ((e.trans e2).trans e3).trans e4
    refine ⟨_, ds_get (ds_ex e04 h) z, q _ H4 ((e2.trans e3).trans e4) ?_⟩
    have hr4 := hr.mono (pairR_ex e04)
    cases hm : m.lookup z with
    | none =>
      rw [hr4.no hm]
      exact hx
    | some a =>
      obtain ⟨v, hv, hp⟩ := hr4.get hm
      rw [hv]
      exact hp⟩
theorem flat_le {α : Type} {f : α → List Str} {k : Nat} : ∀ {l : List α}, (∀ x ∈ l, (f x).length ≤ k) → (l.flatMap f).length ≤ l.length * k
  | [], _ => Nat.zero_le _
  | x :: r, h => by
    have h1 := h x List.mem_cons_self
    have h2 := flat_le (l := r) fun y hy => h y (List.mem_cons_of_mem _ hy)
    rw [List.flatMap_cons, List.length_append, List.length_cons, Nat.succ_mul]
    omega
theorem lookup_map {α : Type} {g : Str → α} : ∀ {ns : List Str} {n : Str}, n ∈ ns → (ns.map fun n => (n, g n)).lookup n = some (g n)
  | [], _, h => nomatch h
  | x :: r, n, h => by
    rw [List.map_cons, List.lookup_cons]
    by_cases e : n = x
    · subst e
      rw [beq_self_eq_true]
    · rw [beq_false_of_ne e]
      rcases List.mem_cons.mp h with h | h
      · exact absurd h e
      · exact lookup_map h
theorem lines_sz {tb : Tabs0} {gr : List Str} {sz : Sizs0} : linesOf tb gr ((namesOf' tb).map fun n => (n, sizeOf' sz n)) = linesOf tb gr sz := by
  have hs : ∀ n ∈ namesOf' tb, sizeOf' ((namesOf' tb).map fun n => (n, sizeOf' sz n)) n = sizeOf' sz n := fun n hn => by
    show ((List.lookup n _).getD (1, 1)) = _
    rw [lookup_map hn]
    rfl
  unfold linesOf
  congr 2
  rw [List.filter_congr (q := fun n => !decide (sizeOf' sz n = (1, 1))) fun n hn => by rw [hs n hn]]
  exact List.map_congr_left fun n hn => by rw [hs n (List.mem_filter.mp hn).1]
theorem rd_end {K : PySem.W.Frag} {H0 H : Hp} {p d t g z s : Addr} {gv : V} {st : QS} {n : Nat} {os : List (Option Str)} {x4 x5 x6 x7 x8 x9 : Option V} {D : Ends} (hN : RdN H0 d t z s) (h : RdP K H0 H d t g z s gv st n os) (hn : n = os.length) (hn20 : n ≤ 20)
    (hrt : ∀ v H', Ex H0 H' → ResR H' v (toldOf os) → D.rt v H') :
    (tSeq (sDPut (tVar 1) (tC (.str "groups")) (tIf (tTest (tOp rNotNn (tVar 3) (tC .non))) (tVar 3) (tLst tNil))) (tSeq (tAsg (tCl sp__law_names (tCons (tVar 1) tNil)) (gName 10)) (tSeq (tAsg (tCl (sp__law_columns K) (tCons (tVar 1) (tCons (tVar 10) tNil))) (gName 11)) (tSeq (tLock (tAsg (tLc (iKeys (tVar 2)) (gName 8) (tOr (tTest (tOp (rIn K true) (tVar 8) (tVar 10))) (tOr (tB (tCl (sp__law_less K) (tCons (tTup (tCons (tC (.int 9)) (tCons (tC (.int 1)) tNil))) (tCons (tDGet (tVar 2) (tVar 8)) tNil)))) (tTest (tOp rGtI (tOp (rIxT K) (tDGet (tVar 2) (tVar 8)) (tC (.int 1))) (tC (.int 60)))))) (tVar 8) [8]) (gName 12))) (tSeq (tAsg (tOp rCat (tVar 12) (tLockE (tLc (iKeys (tVar 2)) (gName 8) (tTest (tOp rLtI (tOp (rIxT K) (tDGet (tVar 2) (tVar 8)) (tC (.int 0))) (tC (.int 0)))) (tVar 8) [8]))) (gName 12)) (tSeq (tAsg (tOp rCat (tVar 12) (tLc (iList K (tDGet (tVar 1) (tC (.str "groups")))) (gName 13) (tTest (tOp (rIn K true) (tVar 13) (tVar 11))) (tVar 13) [13])) (gName 12)) (tSeq (tAsg (tOp rCat (tVar 12) (tLc (iList K (tVar 10)) (gName 8) (tTest (tOp rGtI (tCB (rLenS K) (tCons (tDGet (tDGet (tVar 1) (tC (.str "tables"))) (tVar 8)) tNil)) (tC (.int 6)))) (tVar 8) [8])) (gName 12)) (tSeq (tIfS (tOr (tTest (tOp (rNeD K) (tVar 12) (tLst tNil))) (tOr (tNot (tTest (tChain rLeI rLeI (tC (.int 1)) (tCB (rLenS K) (tCons (tVar 10) tNil)) (tC (.int 6))))) (tTest (tOp rGtI (tCB (rLenS K) (tCons (tVar 11) tNil)) (tC (.int 8)))))) (tRet (tC (.str "question"))) tNext) (tSeq (sDPut (tVar 1) (tC (.str "sizes")) (tCB (rDictP K) (tCons (tLc (iList K (tVar 10)) (gName 8) tYes (tTup (tCons (tVar 8) (tCons (tDGet2 (tVar 2) (tVar 8) (tTup (tCons (tC (.int 1)) (tCons (tC (.int 1)) tNil)))) tNil))) [8]) tNil))) (tRet (tCl (sp__law_lines K) (tCons (tVar 1) tNil)))))))))))) D (rdSt p d s gv x4 x5 x6 x7 x8 x9) H := by
  have hres : toldOf os = resOf (.inr st) := by
    have := h.run
    rw [hn, List.drop_length] at this
    unfold toldOf
    rw [this]
    rfl
  have hnd := h.ok.tn
  have hv := verdict hnd h.lw
  have hgrok : (st.gr.getD []).length ≤ 61 ∧ ∀ c ∈ st.gr.getD [], c.length ≤ 8 ∧ PyData.strOk c = true := by
    cases hg : st.gr with
    | none => exact ⟨Nat.zero_le _, fun c hc => nomatch hc⟩
    | some c => exact ⟨(h.lw.gr c hg).2, (lawNames_ok (h.lw.gr c hg).1).2.2⟩
  have htb20 : st.tb.length ≤ 20 := Nat.le_trans h.ok.t hn20
  have hsz20 : st.sz.length ≤ 20 := Nat.le_trans h.ok.z hn20
  have hnm20 : (namesOf' st.tb).length ≤ 20 := by rw [names_len hnd]; exact htb20
  have hnmok : ∀ x ∈ namesOf' st.tb, x.length ≤ 8 ∧ PyData.strOk x = true := fun x hx => by
    obtain ⟨e, he, rfl⟩ := List.mem_map.mp (mem_setSort.mp hx)
    exact isName_ok (h.lw.tb e he).1
  have hszok : ∀ e ∈ st.sz, PyData.strOk e.1 = true := fun e he => (isName_ok (h.lw.sz e he).1).2
  have hcl61 : ∀ x ∈ namesOf' st.tb, ((st.tb.lookup x).getD []).length ≤ 61 := fun x hx => by
    obtain ⟨e, he, rfl⟩ := List.mem_map.mp (mem_setSort.mp hx)
    have := colOf_mem hnd he
    unfold colOf at this
    rw [this]
    exact (h.lw.tb e he).2.2
  have hcols : (colsL st.tb (namesOf' st.tb)).length < 3000 := by
    have := flat_le hcl61
    unfold colsL
    omega
  refine q_dputX (P := fun v H' => lstR H' v (st.gr.getD [])) (fun _ _ => ev_var rfl) (fun _ _ => ev_c) (eq_if (b := st.gr.isSome) (et_is (et_test (ev_op (ev_var rfl) ev_c rv_notNn)) ?_) (fun hb => ?_) (fun hb => ?_)) h.A.fd (show (3 : Nat) < 100000 by decide) fun v H1 H2 e1 hv1 e2 => ?_
  · have := h.A.fr
    cases hg : st.gr with
    | none =>
      rw [hg] at this
      have : gv = .non := this
      subst this
      rfl
    | some c =>
      rw [hg] at this
      obtain ⟨y, rfl, _⟩ := this
      rfl
  · have := h.A.fr
    cases hg : st.gr with
    | none => rw [hg] at hb; cases hb
    | some c =>
      rw [hg] at this
      exact fun H1 e Q q => ev_var rfl H1 e Q fun H2 e2 => q gv H2 e2 (lstR_ex (e.trans e2) _ _ this)
  · cases hg : st.gr with
    | some c => rw [hg] at hb; cases hb
    | none => exact fun H1 e Q q => el_nilS H1 e Q fun p H2 _ e2 hx => q _ H2 e2 ⟨p, rfl, hx⟩
  rw [put_g]
  have e02 := (h.e.trans e1).trans e2
  have hA := h.A.ex (e1.trans e2)
  have hfd := hA.fd
  obtain ⟨l, ht, hl⟩ := hA.ft
  obtain ⟨l2, hs, hl2⟩ := hA.fs
  obtain ⟨g', rfl, hg'⟩ := lstR_ex e2 _ _ hv1
  have hgd : g' ≠ d := fun e => by subst e; rw [hfd] at hg'; cases hg'
  have hzd : z ≠ d := fun e => by
    rw [← e] at hfd
    have h4 := HO.dK.inj (Option.some.inj (hfd.symm.trans hA.fz))
    have h5 := congrArg List.length h4
    rw [kS_len] at h5
    cases h5
  generalize hH3 : upd H2 d (.dK (kS [("tables", .ref t), ("groups", .ref g'), ("sizes", .ref z)])) = H3
  have e03 : Ex H0 H3 := by rw [← hH3]; exact e02.mut hN.nd
  have fd3 : H3 d = some (.dK (kS [("tables", .ref t), ("groups", .ref g'), ("sizes", .ref z)])) := by rw [← hH3]; exact upd_same
  have ft3 : H3 t = some (.dK (kS l)) := by rw [← hH3, upd_ne (Ne.symm hN.dt)]; exact ht
  have hl3 : RelR lstR H3 l st.tb := by rw [← hH3]; exact hl.mono fun v a q => lstR_upd hfd raw_dk q
  have fg3 : H3 g' = some (.lst ((st.gr.getD []).map V.str)) := by rw [← hH3, upd_ne hgd]; exact hg'
  have fz3 : H3 z = some (.dK []) := by rw [← hH3, upd_ne hzd]; exact hA.fz
  have fs3 : H3 s = some (.dK (kS l2)) := by rw [← hH3, upd_ne (Ne.symm hN.ds)]; exact hs
  have hl23 : RelR pairR H3 l2 st.sz := by rw [← hH3]; exact hl2.mono fun v a q => pairR_upd hfd raw_dkT q
  have hp : PlA H3 d ⟨st.tb, st.gr.getD [], []⟩ := ⟨t, g', z, l, [], fd3, ft3, hl3, fg3, fz3, .nil⟩
  refine q_asgL (el_names (ev_var rfl) hp hnd (Nat.lt_of_le_of_lt htb20 (by decide))) fun np H4 hnp e4 hx4 => ?_
  have hx4 : H4 np = some (.lst ((namesOf' st.tb).map V.str)) := hx4
  refine q_asgL (el_columns (ns := namesOf' st.tb) (ev_var rfl) (ev_var rfl) (hp.ex e4) (SqL.of hx4) (fun n hn => mem_names.mp hn) hcols) fun cp H5 hcp e5 hx5 => ?_
  have hx5 : H5 cp = some (.lst ((setSort (colsL st.tb (namesOf' st.tb))).map V.str)) := hx5
  have e35 := e4.trans e5
  have hx45 := e5 _ _ hx4
  have hs5 := e35 _ _ fs3
  have hl25 := hl23.mono (pairR_ex e35)
  have hkeys : (l2.map fun e => V.str e.1) = (st.sz.map (·.1)).map V.str := by
    rw [← hl25.keys, List.map_map]
    rfl
  -- what a name of the sizes finds
  have hsg : ∀ {H6 : Hp} (od : Obj) (nm : Str) {σ : L2.St}, nm ∈ st.sz.map (·.1) → Ex (upd H5 s (.frz od (.dK (kS l2)))) H6 → σ[2]? = some (some (.ref s)) → σ[8]? = some (some (.str nm)) → ∃ tz y, st.sz.lookup nm = some y ∧ okInt y.1 ∧ okInt y.2 ∧ Ev (tDGet (tVar 2) (tVar 8)) σ H6 (.ref tz) ∧ H6 tz = some (.tup [.int y.1, .int y.2]) := by
    intro H6 od nm σ hm e6 s2 s8
    obtain ⟨⟨k0, y⟩, he, rfl⟩ := List.mem_map.mp hm
    have hlk : st.sz.lookup k0 = some y := mem_lookup h.ok.zn he
    obtain ⟨v, hv, tz, rfl, htz⟩ := hl25.get hlk
    have hne : tz ≠ s := fun e => by subst e; rw [htz] at hs5; cases hs5
    refine ⟨tz, y, hlk, (h.lw.sz _ he).2.1, (h.lw.sz _ he).2.2, ev_dget (ev_var s2) (ev_var s8) (.inr ⟨od, e6 _ _ upd_same⟩) hv, e6 _ _ ?_⟩
    rw [upd_ne hne]
    exact htz
  refine q_lockAsg (q_asgL (xs := ((st.sz.filter (badSz st.tb)).map (·.1)).map V.str) (el_lock hs5 trivial fun od => ?_) fun b1 H6 hb1 e6 hx6 => ?_)
  · have em : ((st.sz.filter (badSz st.tb)).map (·.1)).map V.str = (((st.sz.map (·.1)).map V.str).filter fun v => badSz st.tb (strOf v, (st.sz.lookup (strOf v)).getD (0, 1))).map id := by
      rw [List.map_id, List.filter_map, ← filter_keys (badSz st.tb) (0, 1) h.ok.zn]
      rfl
    rw [em, ← hkeys]
    refine el_filter _ id (src_keys (ev_var rfl) upd_same) (by rw [List.length_map, hl25.len]; omega) (fun _ => rfl) (fun x H7 e7 hx => ?_) fun x H7 e7 hx _ => ev_var rfl
    rw [hkeys] at hx
    obtain ⟨nm, hm, rfl⟩ := List.mem_map.mp hx
    obtain ⟨tz, y, hlk, o1, o2, hev, htz⟩ := hsg od nm (σ := [some (.ref p), some (.ref d), some (.ref s), some gv, x4, x5, x6, x7, some (.str nm), x9, some (.ref np), some (.ref cp), none, none]) hm e7 rfl rfl
    have hnp7 : H7 np = some (.lst ((namesOf' st.tb).map V.str)) := e7 _ _ (by rw [upd_ne (fun e => by subst e; rw [hx45] at hs5; cases hs5)]; exact hx45)
    show EvT _ _ _ (badSz st.tb (nm, (st.sz.lookup nm).getD (0, 1)))
    rw [hlk]
    refine et_or (et_is (et_test (ev_op (ev_var rfl) (ev_var rfl) (rv_inL (neg := true) (SqL.of hnp7) rfl (flatV_strs _)))) (congrArg (!·) inV_strs)) fun _ => et_or (et_B (ev_less9 hev htz o1 o2)) fun _ => et_is (et_test (ev_op (ev_op hev ev_c (rv_ixT (SqT.of htz) rfl)) ev_c rv_I0)) rfl
  have e36 := e35.trans e6
  have hs6 := e6 _ _ hs5
  refine q_asgL (xs := ((st.sz.filter (badSz st.tb)).map (·.1)).map V.str ++ ((st.sz.filter fun e => decide (e.2.1 < 0)).map (·.1)).map V.str) (el_cat (ew_old (ev_var rfl) hx6) (ew_new (el_lock hs6 trivial fun od => ?_)) ?_) fun b2 H7 hb2 e7 hx7 => ?_
  · have em : ((st.sz.filter fun e => decide (e.2.1 < 0)).map (·.1)).map V.str = (((st.sz.map (·.1)).map V.str).filter fun v => (fun e : Str × (Int × Int) => decide (e.2.1 < 0)) (strOf v, (st.sz.lookup (strOf v)).getD (0, 1))).map id := by
      rw [List.map_id, List.filter_map, ← filter_keys (fun e : Str × (Int × Int) => decide (e.2.1 < 0)) (0, 1) h.ok.zn]
      rfl
    rw [em, ← hkeys]
    refine el_filter _ id (src_keys (ev_var rfl) upd_same) (by rw [List.length_map, hl25.len]; omega) (fun _ => rfl) (fun x H8 e8 hx => ?_) fun x H8 e8 hx _ => ev_var rfl
    rw [hkeys] at hx
    obtain ⟨nm, hm, rfl⟩ := List.mem_map.mp hx
    obtain ⟨tz, y, hlk, o1, o2, hev, htz⟩ := hsg od nm (H6 := H8) (σ := [some (.ref p), some (.ref d), some (.ref s), some gv, x4, x5, x6, x7, some (.str nm), x9, some (.ref np), some (.ref cp), some (.ref b1), none]) hm ((ex_lock e6 hs5).trans e8) rfl rfl
    show EvT _ _ _ (decide (((st.sz.lookup nm).getD (0, 1)).1 < 0))
    rw [hlk]
    exact et_test (ev_op (ev_op hev ev_c (rv_ixT (SqT.of htz) rfl)) ev_c rv_I0)
  · have f1 := List.length_filter_le (badSz st.tb) st.sz
    have f2 := List.length_filter_le (fun e => decide (e.2.1 < 0)) st.sz
    simp only [List.length_map]
    omega
  rw [← List.map_append] at hx7
  have e37 := e36.trans e7
  have hg7 := e37 _ _ fg3
  have hd7 := e37 _ _ fd3
  have hcp7 := e7 _ _ (e6 _ _ hx5)
  refine q_asgL (xs := ((st.sz.filter (badSz st.tb)).map (·.1) ++ (st.sz.filter fun e => decide (e.2.1 < 0)).map (·.1)).map V.str ++ ((st.gr.getD []).filter fun c => !decide (c ∈ setSort (colsL st.tb (namesOf' st.tb)))).map V.str) (el_cat (ew_old (ev_var rfl) hx7) (ew_new ?_) ?_) fun b3 H8 hb3 e8 hx8 => ?_
  · have em : ((st.gr.getD []).filter fun c => !decide (c ∈ setSort (colsL st.tb (namesOf' st.tb)))).map V.str = (((st.gr.getD []).map V.str).filter fun v => !decide (strOf v ∈ setSort (colsL st.tb (namesOf' st.tb)))).map id := by
      rw [List.map_id, List.filter_map]
      rfl
    rw [em]
    refine el_filter _ id (src_list (ev_dget (ev_var rfl) ev_c (.inl hd7) lk_g) (SqL.of hg7)) (by rw [List.length_map]; have := hgrok.1; omega) (fun _ => rfl) (fun x H9 e9 hx => ?_) fun x H9 e9 hx _ => ev_var rfl
    obtain ⟨c, hm, rfl⟩ := List.mem_map.mp hx
    exact et_is (et_test (ev_op (ev_var rfl) (ev_var rfl) (rv_inL (neg := true) (SqL.of (e9 _ _ hcp7)) rfl (flatV_strs _)))) (congrArg (!·) inV_strs)
  · have f1 := List.length_filter_le (badSz st.tb) st.sz
    have f2 := List.length_filter_le (fun e => decide (e.2.1 < 0)) st.sz
    have f3 := List.length_filter_le (fun c => !decide (c ∈ setSort (colsL st.tb (namesOf' st.tb)))) (st.gr.getD [])
    have := hgrok.1
    simp only [List.length_map, List.length_append]
    omega
  rw [← List.map_append] at hx8
  have e38 := e37.trans e8
  have hd8 := e38 _ _ fd3
  have ht8 := e38 _ _ ft3
  have hl8 := hl3.mono (lstR_ex e38)
  have hnp8 := e8 _ _ (e7 _ _ (e6 _ _ hx45))
  have hcp8 := e8 _ _ hcp7
  refine q_asgL (xs := (badOf st).map V.str) ?_ fun b4 H9 hb4 e9 hx9 => ?_
  · unfold badOf
    rw [List.map_append (l₂ := (namesOf' st.tb).filter _)]
    refine el_cat (ew_old (ev_var rfl) hx8) (ew_new ?_) ?_
    · have em : ((namesOf' st.tb).filter fun n => decide (6 < (colOf st.tb n).length)).map V.str = (((namesOf' st.tb).map V.str).filter fun v => decide (6 < (colOf st.tb (strOf v)).length)).map id := by
        rw [List.map_id, List.filter_map]
        rfl
      rw [em]
      refine el_filter _ id (src_list (ev_var rfl) (SqL.of hnp8)) (by rw [List.length_map]; omega) (fun _ => rfl) (fun x H10 e10 hx => ?_) fun x H10 e10 hx _ => ev_var rfl
      obtain ⟨nm, hm, rfl⟩ := List.mem_map.mp hx
      obtain ⟨c, hc⟩ := Option.isSome_iff_exists.mp (mem_names.mp hm)
      obtain ⟨v, hv, y, rfl, hy⟩ := hl8.get hc
      have hco : colOf st.tb nm = c := by unfold colOf; rw [hc]; rfl
      show EvT _ _ _ (decide (6 < (colOf st.tb nm).length))
      rw [hco]
      refine et_is (et_test (ev_op (ev_len (ev_dget (ev_dget (ev_var rfl) ev_c (.inl (e10 _ _ hd8)) lk_t) (ev_var rfl) (.inl (e10 _ _ ht8)) hv) (SqL.of (e10 _ _ hy))) ev_c rv_I0)) ?_
      rw [List.length_map]
      exact decide_eq_decide.mpr ⟨fun q => by omega, fun q => by omega⟩
    · have f1 := List.length_filter_le (badSz st.tb) st.sz
      have f2 := List.length_filter_le (fun e => decide (e.2.1 < 0)) st.sz
      have f3 := List.length_filter_le (fun c => !decide (c ∈ setSort (colsL st.tb (namesOf' st.tb)))) (st.gr.getD [])
      have f4 := List.length_filter_le (fun n => decide (6 < (colOf st.tb n).length)) (namesOf' st.tb)
      have := hgrok.1
      simp only [List.length_map, List.length_append]
      omega
  have e39 := e38.trans e9
  have hbad : ∀ y ∈ badOf st, PyData.strOk y = true := fun y hy => by
    unfold badOf at hy
    rcases List.mem_append.mp hy with hy | hy
    · rcases List.mem_append.mp hy with hy | hy
      · rcases List.mem_append.mp hy with hy | hy
        · obtain ⟨e, he, rfl⟩ := List.mem_map.mp hy
          exact hszok e (List.mem_filter.mp he).1
        · obtain ⟨e, he, rfl⟩ := List.mem_map.mp hy
          exact hszok e (List.mem_filter.mp he).1
      · exact (hgrok.2 y (List.mem_filter.mp hy).1).2
    · exact (hnmok y (List.mem_filter.mp hy).1).2
  have hnp9 := e9 _ _ hnp8
  have hcp9 := e9 _ _ hcp8
  refine q_when (b := lawBad st) (et_or (et_test (ev_neLst (ew_old (ev_var rfl) hx9) (ew_new el_nilS) hbad ok_nil)) fun _ => et_or (et_is (et_not (et_test (ev_chain ev_c (ev_len (ev_var rfl) (SqL.of hnp9)) rv_I0 (fun _ => ev_c) fun _ => rv_I0))) ?_) fun _ => et_is (et_test (ev_op (ev_len (ev_var rfl) (SqL.of hcp9)) ev_c rv_I0)) ?_) (fun hb H10 e10 => ?_) (fun hb H10 e10 => ?_)
  · rw [List.length_map]
    congr 2
    · exact decide_eq_decide.mpr ⟨fun q => by omega, fun q => by omega⟩
    · exact decide_eq_decide.mpr ⟨fun q => by omega, fun q => by omega⟩
  · rw [List.length_map]
    exact decide_eq_decide.mpr ⟨fun q => by omega, fun q => by omega⟩
  · refine s_ret ev_c fun H11 e11 => hrt _ H11 (((e03.trans e39).trans e10).trans e11) ?_
    rw [hres]
    rw [hb] at hv
    have : isParts st.tb (st.gr.getD []) st.sz = false := by
      cases hh : isParts st.tb (st.gr.getD []) st.sz with
      | false => rfl
      | true => rw [hh] at hv; cases hv
    show ResR _ _ (if _ then _ else _)
    rw [if_neg (by rw [this]; decide)]
    rfl
  have hparts : isParts st.tb (st.gr.getD []) st.sz = true := by
    rw [hb] at hv
    cases hh : isParts st.tb (st.gr.getD []) st.sz with
    | true => rfl
    | false => rw [hh] at hv; cases hv
  have e310 := e39.trans e10
  have hd10 := e310 _ _ fd3
  have hs10 := e310 _ _ fs3
  have hl10 := hl23.mono (pairR_ex e310)
  have hnp10 := e10 _ _ hnp9
  refine q_dputX (P := fun v H' => ∃ z' l', v = .ref z' ∧ z' ≠ d ∧ H' z' = some (.dK (kS l')) ∧ RelR pairR H' l' ((namesOf' st.tb).map fun n => (n, sizeOf' st.sz n))) (fun _ _ => ev_var rfl) (fun _ _ => ev_c) (fun H11 e11 Q' q' => ?_) hd10 (show (3 : Nat) < 100000 by decide) fun v H11 H12 e11 hv11 e12 => ?_
  · refine ed_dictP (m := (namesOf' st.tb).map fun n => (n, sizeOf' st.sz n)) (fun H H' v a e => pairR_ex e v a) (el_pairs (fun H H' v a e => pairR_ex e v a) (fun v a H D zs u hD => pairR_upd hD fun _ z => nomatch z) (fun n => sizeOf' st.sz n) (src_list (ev_var rfl) (SqL.of hnp10)) (by omega) (fun _ => rfl) (fun _ => rfl) fun nm H13 e13 hm => ?_) ?_ H11 e11 Q' fun z' l' H14 nz e14 hz' hr' => q' _ H14 e14 ⟨z', l', rfl, (fun e => by rw [e, e11 _ _ hd10] at nz; cases nz), hz', hr'⟩
    · exact eq_get2 (ev_var rfl) (ev_var rfl) (.inl (e13 _ _ hs10)) (hl10.mono (pairR_ex e13))
    · rw [List.map_map]
      show ((namesOf' st.tb).map fun n => n).Nodup
      rw [List.map_id']
      exact asc_nodup (asc_setSort _)
  rw [put_z]
  obtain ⟨z', l', rfl, hzd', hz', hr'⟩ := hv11
  have hz12 := e12 _ _ hz'
  have e312 := (e310.trans e11).trans e12
  have hd12 := e312 _ _ fd3
  have hr12 := hr'.mono (pairR_ex e12)
  have ht12 := e312 _ _ ft3
  have hg12 := e312 _ _ fg3
  generalize hH13 : upd H12 d (.dK (kS [("tables", .ref t), ("groups", .ref g'), ("sizes", .ref z')])) = H13
  have e013 : Ex H0 H13 := by rw [← hH13]; exact (e03.trans e312).mut hN.nd
  have hpl : PlA H13 d ⟨st.tb, st.gr.getD [], (namesOf' st.tb).map fun n => (n, sizeOf' st.sz n)⟩ := by
    rw [← hH13]
    refine ⟨t, g', z', l, l', upd_same, by rw [upd_ne (Ne.symm hN.dt)]; exact ht12, ?_, by rw [upd_ne hgd]; exact hg12, by rw [upd_ne hzd']; exact hz12, ?_⟩
    · exact (hl3.mono (lstR_ex e312)).mono fun v a q => lstR_upd hd12 raw_dk q
    · exact hr12.mono fun v a q => pairR_upd hd12 raw_dkT q
  have hok : PlOk ⟨st.tb, st.gr.getD [], (namesOf' st.tb).map fun n => (n, sizeOf' st.sz n)⟩ := by
    refine ⟨hnd, Nat.lt_of_le_of_lt htb20 (by decide), fun e he => ?_, ⟨Nat.le_trans hgrok.1 (by decide), fun c hc => ⟨Nat.le_trans (hgrok.2 c hc).1 (by decide), (hgrok.2 c hc).2⟩⟩, fun e he => ?_, fun e he => ?_⟩
    · obtain ⟨a1, a2, a3⟩ := h.lw.tb e he
      exact ⟨Nat.le_trans (isName_ok a1).1 (by decide), Nat.le_trans a3 (by decide), fun c hc => Nat.le_trans ((lawNames_ok a2).2.2 c hc).1 (by decide)⟩
    · have hm : e.1 ∈ namesOf' st.tb := mem_setSort.mpr (List.mem_map.mpr ⟨e, he, rfl⟩)
      show (List.lookup e.1 ((namesOf' st.tb).map fun n => (n, sizeOf' st.sz n))).isSome = true
      rw [lookup_map (g := fun n => sizeOf' st.sz n) hm]
      rfl
    · obtain ⟨n, hn, rfl⟩ := List.mem_map.mp he
      show okInt (sizeOf' st.sz n).1 ∧ okInt (sizeOf' st.sz n).2
      unfold sizeOf'
      cases hs : st.sz.lookup n with
      | none => exact ⟨ok1, ok1⟩
      | some y => exact (h.lw.sz _ (lookup_mem hs)).2
  refine s_retL (xs := (linesOf st.tb (st.gr.getD []) st.sz).map V.str) (fun H14 e14 Q' q' => ev_var rfl H14 e14 _ fun H15 e15 => ⟨d, _, rfl, hpl.ex (e14.trans e15), hok, fun a H16 ha e16 hx => q' a H16 (fresh_back e15 ha) (e15.trans e16) ?_⟩) fun a H14 ha e14 hx => hrt _ H14 (e013.trans e14) ?_
  · rw [hx]
    show some (HO.lst ((linesOf st.tb (st.gr.getD []) ((namesOf' st.tb).map fun n => (n, sizeOf' st.sz n))).map V.str)) = _
    rw [lines_sz]
  · rw [hres]
    show ResR _ _ (if _ then _ else _)
    rw [if_pos hparts]
    exact ⟨a, rfl, hx⟩

end K08

namespace K08
open PySem PySem.Spec PyProof.Rows L2 Evl
/-! ### _law_read -/
def t__law_read (K : PySem.W.Frag)(w : World) : TS :=
  (tSeq (tAsg (tTup (tCons (tDisp [((tC (.str "tables")), tDNewK), ((tC (.str "groups")), (tLst tNil)), ((tC (.str "sizes")), tDNewK)]) (tCons tDNewK (tCons (tC .non) tNil)))) (gTup K 3 (gCons (gName 1) (gCons (gName 2) (gCons (gName 3) gNil)))))
    (tSeq (tFor (iEnum K (tCons (tVar 0) tNil)) (gTup K 2 (gCons (gName 4) (gCons (gName 5) gNil)))
    (tSeq (tAsg (tIf (tB (tCB (rIsi K) (tCons (tVar 5) (tCons (tC (.ty "str")) tNil)))) (tM1 rSplit (tVar 5) (tC (.str " "))) (tLst (tCons (tC (.str "")) tNil))) (gName 6))
    (tSeq (tPar3 7 8 9 (tCons (tOp (rIxL K) (tVar 6) (tC (.int 0))) (tCons (tIf (tTest (tOp rGtI (tCB (rLenS K) (tCons (tVar 6) tNil)) (tC (.int 1)))) (tOp (rIxL K) (tVar 6) (tC (.int 1))) (tC (.str ""))) (tCons (L2.tSl (rSlL K) (tVar 6) (tPart (tC (.int 2))) tNoPart) tNil))))
    (tIfS (tAnd (tTest (tOp rEq (tVar 7) (tC (.str "table")))) (tAnd (tB (tCl sp__law_is_name (tCons (tVar 8) tNil))) (tAnd (tB (tCl (sp__law_are_names K) (tCons (tVar 9) tNil))) (tB (tDNotIn (tVar 8) (tDGet (tVar 1) (tC (.str "tables")))))))) (sDPut (tDGet (tVar 1) (tC (.str "tables"))) (tVar 8) (tVar 9)) (tIfS (tAnd (tTest (tOp rEq (tVar 7) (tC (.str "size")))) (tAnd (tTest (tOp rEq (tCB (rLenS K) (tCons (tVar 6) tNil)) (tC (.int 3)))) (tAnd (tB (tCl sp__law_is_name (tCons (tVar 8) tNil))) (tB (tDNotIn (tVar 8) (tVar 2)))))) (tSeq (tIfS (tTest (tOp rIsNn (tCl (sp__law_ratio K) (tCons (tOp (rIxL K) (tVar 9) (tC (.int 0))) tNil)) (tC .non))) (tRet (tOp rCatS (tC (.str "parse ")) (tCB rReprI (tCons (tVar 4) tNil)))) tNext)
    (sDPut (tVar 2) (tVar 8) (tCl (sp__law_ratio K) (tCons (tOp (rIxL K) (tVar 9) (tC (.int 0))) tNil)))) (tIfS (tAnd (tTest (tOp rEq (tVar 7) (tC (.str "group")))) (tAnd (tB (tCl (sp__law_are_names K) (tCons (L2.tSl (rSlL K) (tVar 6) (tPart (tC (.int 1))) tNoPart) tNil))) (tTest (tOp rIsNn (tVar 3) (tC .non))))) (tAsg (L2.tSl (rSlL K) (tVar 6) (tPart (tC (.int 1))) tNoPart) (gName 3)) (tRet (tOp rCatS (tC (.str "parse ")) (tCB rReprI (tCons (tVar 4) tNil))))))))))
    (tSeq (sDPut (tVar 1) (tC (.str "groups")) (tIf (tTest (tOp rNotNn (tVar 3) (tC .non))) (tVar 3) (tLst tNil)))
    (tSeq (tAsg (tCl sp__law_names (tCons (tVar 1) tNil)) (gName 10))
    (tSeq (tAsg (tCl (sp__law_columns K) (tCons (tVar 1) (tCons (tVar 10) tNil))) (gName 11))
    (tSeq (tLock (tAsg (tLc (iKeys (tVar 2)) (gName 8) (tOr (tTest (tOp (rIn K true) (tVar 8) (tVar 10))) (tOr (tB (tCl (sp__law_less K) (tCons (tTup (tCons (tC (.int 9)) (tCons (tC (.int 1)) tNil))) (tCons (tDGet (tVar 2) (tVar 8)) tNil)))) (tTest (tOp rGtI (tOp (rIxT K) (tDGet (tVar 2) (tVar 8)) (tC (.int 1))) (tC (.int 60)))))) (tVar 8) [8]) (gName 12)))
    (tSeq (tAsg (tOp rCat (tVar 12) (tLockE (tLc (iKeys (tVar 2)) (gName 8) (tTest (tOp rLtI (tOp (rIxT K) (tDGet (tVar 2) (tVar 8)) (tC (.int 0))) (tC (.int 0)))) (tVar 8) [8]))) (gName 12))
    (tSeq (tAsg (tOp rCat (tVar 12) (tLc (iList K (tDGet (tVar 1) (tC (.str "groups")))) (gName 13) (tTest (tOp (rIn K true) (tVar 13) (tVar 11))) (tVar 13) [13])) (gName 12))
    (tSeq (tAsg (tOp rCat (tVar 12) (tLc (iList K (tVar 10)) (gName 8) (tTest (tOp rGtI (tCB (rLenS K) (tCons (tDGet (tDGet (tVar 1) (tC (.str "tables"))) (tVar 8)) tNil)) (tC (.int 6)))) (tVar 8) [8])) (gName 12))
    (tSeq (tIfS (tOr (tTest (tOp (rNeD K) (tVar 12) (tLst tNil))) (tOr (tNot (tTest (tChain rLeI rLeI (tC (.int 1)) (tCB (rLenS K) (tCons (tVar 10) tNil)) (tC (.int 6))))) (tTest (tOp rGtI (tCB (rLenS K) (tCons (tVar 11) tNil)) (tC (.int 8)))))) (tRet (tC (.str "question"))) tNext)
    (tSeq (sDPut (tVar 1) (tC (.str "sizes")) (tCB (rDictP K) (tCons (tLc (iList K (tVar 10)) (gName 8) tYes (tTup (tCons (tVar 8) (tCons (tDGet2 (tVar 2) (tVar 8) (tTup (tCons (tC (.int 1)) (tCons (tC (.int 1)) tNil)))) tNil))) [8]) tNil)))
    (tRet (tCl (sp__law_lines K) (tCons (tVar 1) tNil))))))))))))))
theorem lw0 : LwOk qs0 := ⟨(fun e he => absurd he List.not_mem_nil), (fun e he => absurd he List.not_mem_nil), (fun c hc => nomatch hc)⟩
theorem pure__law_read {K : PySem.W.Frag} {w : World} {vs : List V} {H : Hp} {Q : VK} {E : XK} (h : sp__law_read K vs H Q E) : t__law_read K w { nx := fun _ H' => Q .non H', rt := Q } (start ["_law_lines_here", "_law_plain_here", "_law_sizes", "_law_groups", "_law_at", "_law_line", "_law_words", "_law_word", "_law_name", "_law_rest", "_law_names_here", "_law_columns_here", "_law_bad", "_law_column"] vs) H := by
  obtain ⟨p, xs, os, rfl, hp, hL, hz, k⟩ := h
  have hlen : xs.length = os.length := Paired.length hL
  refine rd_start fun d t g z s H1 hN e1 hA => ?_
  refine q_forEnumL (ea_cons (ev_var rfl) ea_nil) (ex_l e1 hp) (fun i σ' H' => ∃ gv st x4 x5 x6 x7 x8 x9, σ' = rdSt p d s gv x4 x5 x6 x7 x8 x9 ∧ RdP K H H' d t g z s gv st i os)
    (fun H2 e2 => ⟨.non, qs0, none, none, none, none, none, none, rfl, ⟨e1.trans e2, hA.ex e2, rfl, qs0_ok, lw0⟩⟩) (fun i σ' H' hP => ?_) (fun i x σ' H' T' hx hn hP => ?_) (fun σ' H' hP => ?_)
  · obtain ⟨_, _, _, _, _, _, _, _, _, hP⟩ := hP
    exact ex_l hP.e hp
  · obtain ⟨gv, st, x4, x5, x6, x7, x8, x9, rfl, hP⟩ := hP
    have e3 := Ex.new (H := H') (o := .tup [.int (i : Nat), x]) hn
    obtain ⟨o, ho, hxo⟩ := paired_get hL hx
    have hi : i < xs.length := (List.getElem?_eq_some_iff.mp hx).1
    exact rd_step hN ⟨hP.e.trans e3, hP.A.ex e3, hP.run, hP.ok, hP.lw⟩ ho (hxo.ex (hP.e.trans e3)) (by omega) (fun gv st x4 x5 x6 x7 x8 x9 H'' hP'' => ⟨gv, st, x4, x5, x6, x7, x8, x9, rfl, hP''⟩) fun H'' e'' ht => k _ H'' e'' (by rw [ht]; rfl)
  · obtain ⟨gv, st, x4, x5, x6, x7, x8, x9, rfl, hP⟩ := hP
    exact rd_end hN hP hlen hz fun v H'' e'' hr => k v H'' e'' hr
theorem sc__law_read : FnScope ["_law_lines_here", "_law_plain_here", "_law_sizes", "_law_groups", "_law_at", "_law_line", "_law_words", "_law_word", "_law_name", "_law_rest", "_law_names_here", "_law_columns_here", "_law_bad", "_law_column"] ["_law_lines_here"] (defScope s__law_read) := ⟨rfl, rfl, rfl, by decide +kernel, rfl, by decide +kernel, by decide +kernel⟩
theorem d__law_read {P : Program} {w : World} {K : PySem.W.Frag} {mg : Str → Option Value} {base : Heap} (T : Txt K mg) {f : Addr} {cdv : Value} {A : Around} {outer : List Env} {s : Shared} {H : Hp} {E : XK} (hr : Room 2 (A.deeper (envOfC "_law_read" (defScope s__law_read) s.heap.objs.size f cdv))) :
    PSs (cxOf CX0 P w K mg base ["_law_lines_here", "_law_plain_here", "_law_sizes", "_law_groups", "_law_at", "_law_line", "_law_words", "_law_word", "_law_name", "_law_rest", "_law_names_here", "_law_columns_here", "_law_bad", "_law_column"] "_law_read" (defScope s__law_read) f cdv A outer s H E).nox (defBody s__law_read) (t__law_read K w) := by
  have hu := hu_of hr
  exact (pss_cons (ps_asg (pe_tup (pa_cons (pe_disp (pps_cons pe_str pe_dnewK (pps_cons pe_str (pe_lst pa_nil) (pps_cons pe_str pe_dnewK pps_nil))) (by rfl) (by rfl) (fun z => by cases z) (by decide)) (pa_cons pe_dnewK (pa_cons pe_non pa_nil)))) (pg_tup rfl (pgs_cons (pg_name (i := 1) sc__law_read.nd rfl (Or.inr rfl)) (pgs_cons (pg_name (i := 2) sc__law_read.nd rfl (Or.inr rfl)) (pgs_cons (pg_name (i := 3) sc__law_read.nd rfl (Or.inl rfl)) pgs_nil)))))
      (pss_cons (ps_for PassesOwn.never rfl (pi_enum (by rfl) T.b_enumerate (pa_cons (pv 0) pa_nil)) (pg_tup rfl (pgs_cons (pg_name (i := 4) sc__law_read.nd rfl (Or.inl rfl)) (pgs_cons (pg_name (i := 5) sc__law_read.nd rfl (Or.inl rfl)) pgs_nil)))
      (pss_cons (ps_asg (pe_ifExp (pt_val (pe_callB call_isi (by rfl) T.b_isinstance (by decide +kernel) (pa_cons (pv 5) (pa_cons (pe_ty T.b_str) pa_nil)))) (pe_split (pv 5) pe_str) (pe_lst (pa_cons pe_str pa_nil))) (pg_name (i := 6) sc__law_read.nd rfl (Or.inl rfl)))
      (pss_cons (ps_par3 (i := 7) (j := 8) (l := 9) (by rfl) sc__law_read.nd rfl rfl rfl (by decide) (by decide) (by decide) rfl rfl rfl (pa_cons (pe_ix ix_list (pv 6) pe_int (fun _ _ => rfl)) (pa_cons (pe_ifExp (pt_cmpR op_gt (pe_callB call_len_seq (by rfl) T.b_len (by decide +kernel) (pa_cons (pv 6) pa_nil)) pe_int (nomark _)) (pe_ix ix_list (pv 6) pe_int (fun _ _ => rfl)) pe_str) (pa_cons (pe_slice sl_list (pv 6) (po_some pe_int) po_none) pa_nil))) (by rfl))
      (pss_one (ps_if (PW.pt (pw_and (pt_cmpR op_eq (pv 7) pe_str (nomark _)) (pw_and (pt_val (pe_cl (cl__law_is_name T) hr (pa_cons (pv 8) pa_nil))) (pw_and (pt_val (pe_cl (cl__law_are_names T) hr (pa_cons (pv 9) pa_nil))) (pw_and1 (pt_cmp (pc_dnotin hu (pv 8) (pe_dget hu (pv 1) pe_str (fun _ _ => rfl))))))))) (pss_one (ps_dput hu (pe_dget hu (pv 1) pe_str (fun _ _ => rfl)) (pv 8) (pv 9) rfl)) (pss_one (ps_if (PW.pt (pw_and (pt_cmpR op_eq (pv 7) pe_str (nomark _)) (pw_and (pt_cmpR op_eq (pe_callB call_len_seq (by rfl) T.b_len (by decide +kernel) (pa_cons (pv 6) pa_nil)) pe_int (nomark _)) (pw_and (pt_val (pe_cl (cl__law_is_name T) hr (pa_cons (pv 8) pa_nil))) (pw_and1 (pt_cmp (pc_dnotin hu (pv 8) (pv 2)))))))) (pss_cons (ps_if (pt_cmpR op_isN (pe_cl (cl__law_ratio T) hr (pa_cons (pe_ix ix_list (pv 9) pe_int (fun _ _ => rfl)) pa_nil)) pe_non (nomark _)) (pss_one (ps_ret (pe_op op_add_str pe_str (pe_callB SkE.call_repr_int (by rfl) T.b_repr (by decide +kernel) (pa_cons (pv 4) pa_nil))))) pss_nil)
      (pss_one (ps_dput hu (pv 2) (pv 8) (pe_cl (cl__law_ratio T) hr (pa_cons (pe_ix ix_list (pv 9) pe_int (fun _ _ => rfl)) pa_nil)) rfl))) (pss_one (ps_if (PW.pt (pw_and (pt_cmpR op_eq (pv 7) pe_str (nomark _)) (pw_and (pt_val (pe_cl (cl__law_are_names T) hr (pa_cons (pe_slice sl_list (pv 6) (po_some pe_int) po_none) pa_nil))) (pw_and1 (pt_cmpR op_isN (pv 3) pe_non (nomark _)))))) (pss_one (ps_asg (pe_slice sl_list (pv 6) (po_some pe_int) po_none) (pg_name (i := 3) sc__law_read.nd rfl (Or.inl rfl)))) (pss_one (ps_ret (pe_op op_add_str pe_str (pe_callB SkE.call_repr_int (by rfl) T.b_repr (by decide +kernel) (pa_cons (pv 4) pa_nil))))))))))))))
      (pss_cons (ps_dput hu (pv 1) pe_str (pe_ifExp (pt_cmpR op_notN (pv 3) pe_non (nomark _)) (pv 3) (pe_lst pa_nil)) rfl)
      (pss_cons (ps_asg (pe_cl (cl__law_names T) hr (pa_cons (pv 1) pa_nil)) (pg_name (i := 10) sc__law_read.nd rfl (Or.inr rfl)))
      (pss_cons (ps_asg (pe_cl (cl__law_columns T) hr (pa_cons (pv 1) (pa_cons (pv 10) pa_nil))) (pg_name (i := 11) sc__law_read.nd rfl (Or.inr rfl)))
      (pss_cons (ps_lock (ps_setLc (i := 12) (own := [("_law_name", 8)]) rfl sc__law_read.nd rfl rfl (sw_true rfl rfl rfl (by decide +kernel)) (pi_keys (pv 2)) (blkOk_by (own := [("_law_name", 8)]) (N := ["_law_lines_here", "_law_plain_here", "_law_sizes", "_law_groups", "_law_at", "_law_line", "_law_words", "_law_word", "_law_name", "_law_rest", "_law_names_here", "_law_columns_here", "_law_bad", "_law_column"]) (sc := defScope s__law_read) (by decide +kernel)) (fun _ _ _ _ _ => (pg_name (i := 8) sc__law_read.nd rfl (Or.inl rfl))) (fun _ _ _ _ _ => (pts_one (PW.pt (pw_or (pt_cmpR op_notIn_seq (pv 8) (pv 10) (by rfl)) (pw_or (pt_val (pe_cl (cl__law_less T) hr (pa_cons (pe_tup (pa_cons pe_int (pa_cons pe_int pa_nil))) (pa_cons (pe_dget hu (pv 2) (pv 8) (fun _ _ => rfl)) pa_nil)))) (pw_or1 (pt_cmpR op_gt (pe_ix ix_tup (pe_dget hu (pv 2) (pv 8) (fun _ _ => rfl)) pe_int (fun _ _ => rfl)) pe_int (nomark _)))))))) (fun _ _ _ _ _ => (pv 8))))
      (pss_cons (ps_asg (pe_op op_cat (pv 12) (pe_lock (pe_lc (own := [("_law_name", 8)]) rfl sc__law_read.nd (pi_keys (pv 2)) (blkOk_by (own := [("_law_name", 8)]) (N := ["_law_lines_here", "_law_plain_here", "_law_sizes", "_law_groups", "_law_at", "_law_line", "_law_words", "_law_word", "_law_name", "_law_rest", "_law_names_here", "_law_columns_here", "_law_bad", "_law_column"]) (sc := defScope s__law_read) (by decide +kernel)) (fun _ _ _ _ _ => (pg_name (i := 8) sc__law_read.nd rfl (Or.inl rfl))) (fun _ _ _ _ _ => (pts_one (pt_cmpR op_lt (pe_ix ix_tup (pe_dget hu (pv 2) (pv 8) (fun _ _ => rfl)) pe_int (fun _ _ => rfl)) pe_int (nomark _)))) (fun _ _ _ _ _ => (pv 8))))) (pg_name (i := 12) sc__law_read.nd rfl (Or.inl rfl)))
      (pss_cons (ps_asg (pe_op op_cat (pv 12) (pe_lc (own := [("_law_column", 13)]) rfl sc__law_read.nd (pi_list (pe_dget hu (pv 1) pe_str (fun _ _ => rfl))) (blkOk_by (own := [("_law_column", 13)]) (N := ["_law_lines_here", "_law_plain_here", "_law_sizes", "_law_groups", "_law_at", "_law_line", "_law_words", "_law_word", "_law_name", "_law_rest", "_law_names_here", "_law_columns_here", "_law_bad", "_law_column"]) (sc := defScope s__law_read) (by decide +kernel)) (fun _ _ _ _ _ => (pg_name (i := 13) sc__law_read.nd rfl (Or.inl rfl))) (fun _ _ _ _ _ => (pts_one (pt_cmpR op_notIn_seq (pv 13) (pv 11) (by rfl)))) (fun _ _ _ _ _ => (pv 13)))) (pg_name (i := 12) sc__law_read.nd rfl (Or.inl rfl)))
      (pss_cons (ps_asg (pe_op op_cat (pv 12) (pe_lc (own := [("_law_name", 8)]) rfl sc__law_read.nd (pi_list (pv 10)) (blkOk_by (own := [("_law_name", 8)]) (N := ["_law_lines_here", "_law_plain_here", "_law_sizes", "_law_groups", "_law_at", "_law_line", "_law_words", "_law_word", "_law_name", "_law_rest", "_law_names_here", "_law_columns_here", "_law_bad", "_law_column"]) (sc := defScope s__law_read) (by decide +kernel)) (fun _ _ _ _ _ => (pg_name (i := 8) sc__law_read.nd rfl (Or.inl rfl))) (fun _ _ _ _ _ => (pts_one (pt_cmpR op_gt (pe_callB call_len_seq (by rfl) T.b_len (by decide +kernel) (pa_cons (pe_dget hu (pe_dget hu (pv 1) pe_str (fun _ _ => rfl)) (pv 8) (fun _ _ => rfl)) pa_nil)) pe_int (nomark _)))) (fun _ _ _ _ _ => (pv 8)))) (pg_name (i := 12) sc__law_read.nd rfl (Or.inl rfl)))
      (pss_cons (ps_if (PW.pt (pw_or (pt_cmpR (op_neD hr.units) (pv 12) (pe_lst pa_nil) (nomark _)) (pw_or (pt_not (pt_chain op_le op_le pe_int (pe_callB call_len_seq (by rfl) T.b_len (by decide +kernel) (pa_cons (pv 10) pa_nil)) pe_int)) (pw_or1 (pt_cmpR op_gt (pe_callB call_len_seq (by rfl) T.b_len (by decide +kernel) (pa_cons (pv 11) pa_nil)) pe_int (nomark _)))))) (pss_one (ps_ret pe_str)) pss_nil)
      (pss_cons (ps_dput hu (pv 1) pe_str (pe_callTy (call_dictP rfl) (by rfl) T.b_dict (by decide +kernel) (pa_cons (pe_lc (own := [("_law_name", 8)]) rfl sc__law_read.nd (pi_list (pv 10)) (blkOk_by (own := [("_law_name", 8)]) (N := ["_law_lines_here", "_law_plain_here", "_law_sizes", "_law_groups", "_law_at", "_law_line", "_law_words", "_law_word", "_law_name", "_law_rest", "_law_names_here", "_law_columns_here", "_law_bad", "_law_column"]) (sc := defScope s__law_read) (by decide +kernel)) (fun _ _ _ _ _ => (pg_name (i := 8) sc__law_read.nd rfl (Or.inl rfl))) (fun _ _ _ _ _ => pts_nil) (fun _ _ _ _ _ => (pe_tup (pa_cons (pv 8) (pa_cons (pe_dget2 hu (pv 2) (pv 8) (pe_tup (pa_cons pe_int (pa_cons pe_int pa_nil))) ⟨rfl, rfl, rfl, rfl⟩) pa_nil))))) pa_nil)) rfl)
      (pss_one (ps_ret (pe_cl (cl__law_lines T) hr (pa_cons (pv 1) pa_nil)))))))))))))))
theorem ok__law_read {P : Program} {w : World} {K : PySem.W.Frag} {mg : Str → Option Value} {base : Heap} (T : Txt K mg) : FnOk P w K mg base CX0 3 T.l_read.f T.l_read.fd ["_law_lines_here"] (sp__law_read K) :=
  ok0 T.l_read.F sc__law_read len__law_read fun cdv A outer s H vs Q E hr h => ⟨t__law_read K w, d__law_read T hr, pure__law_read h⟩
theorem cl__law_read {P : Program} {w : World} {K : PySem.W.Frag} {mg : Str → Option Value} {base : Heap} (T : Txt K mg) : Cl P w K mg base 3 "_law_read" (sp__law_read K) := cl_of T.l_read (ok__law_read T) fun _ _ _ _ _ _ us hl => match us, hl with | [_], _ => rfl

end K08

namespace K08
open PySem PySem.Spec PyProof.Rows L2 Evl
/-! ### plain questions that the law makes -/
def consT : List Str → TA
  | [] => tNil
  | z :: r => tCons (tC (.str z)) (consT r)
theorem ea_consT {σ : L2.St} {H : Hp} : ∀ l : List Str, EvA (consT l) σ H (l.map V.str)
  | [] => ea_nil
  | _ :: r => ea_cons ev_c (ea_consT r)
theorem el_consT {σ : L2.St} {H : Hp} {l : List Str} (hz : l.length ≤ 1000) : EvL (tLst (consT l)) σ H (l.map V.str) := el_lst (ea_consT l) (by rw [List.length_map]; omega)
def dispT (ts : Tabs0) : List (TE × TE) := ts.map fun e => (tC (.str e.1), tLst (consT e.2))
def six : List (Int × Int) := [(1, 1), (1, 2), (2, 1), (0, 1), (3, 2), (1, 3)]
def genB (p : P0) : Bool := decide (1 ≤ p.tb.length ∧ p.tb.length ≤ 4) && (p.tb.all (fun e => isName e.1 && (lawNames e.2 && (decide (e.2.length ≤ 3) && e.2.all fun z => decide (z.length ≤ 2)))) && (areNames p.gr && (decide (p.gr.length ≤ 6) && p.gr.all fun z => decide (z.length ≤ 2))))
structure GenP (p : P0) : Prop where
  b : genB p = true
  nd : (p.tb.map (·.1)).Nodup
  sz : ∀ e ∈ p.tb, ∃ s, p.sz.lookup e.1 = some s ∧ s ∈ six
  zs : ∀ e ∈ p.sz, e.2 ∈ six
theorem pairs_disp {σ : L2.St} : ∀ (ts : Tabs0) (H : Hp) (Q : List (V × V) → Hp → Prop), (∀ e ∈ ts, e.2.length ≤ 1000) → (∀ (l : List (Str × V)) H', Ex H H' → RelR lstR H' l ts → Q (l.map fun e => (V.str e.1, e.2)) H') → tPairs (dispT ts) σ H Q
  | [], H, Q, _, k => k [] H (Ex.refl H) .nil
  | e :: r, H, Q, hz, k => by
    show tC (.str e.1) σ H fun x H1 => tLst (consT e.2) σ H1 fun y H2 => tPairs (dispT r) σ H2 fun ps H3 => Q ((x, y) :: ps) H3
    refine ev_c (v := .str e.1) (σ := σ) (H := H) H (Ex.refl H) _ fun H1 e1 => ?_
    show tLst (consT e.2) σ H1 (fun y H2 => tPairs (dispT r) σ H2 fun ps H3 => Q ((V.str e.1, y) :: ps) H3)
    refine el_consT (σ := σ) (H := H1) (hz e List.mem_cons_self) H1 (Ex.refl H1) _ fun p H2 _ e2 hx => ?_
    refine pairs_disp r H2 _ (fun e he => hz e (List.mem_cons_of_mem _ he)) fun l H3 e3 hr => ?_
    exact k ((e.1, .ref p) :: l) H3 ((e1.trans e2).trans e3) (.cons ⟨rfl, p, rfl, e3 _ _ hx⟩ hr)
/-- a display of tables -/
theorem ed_disp {σ : L2.St} {H : Hp} {ts : Tabs0} (hn : (ts.map (·.1)).Nodup) (hl : ts.length ≤ 15) (hz : ∀ e ∈ ts, e.2.length ≤ 1000) : EvDQ (tDisp (dispT ts)) σ H (fun l H' => RelR lstR H' l ts) := by
  intro H1 e Q q d hd
  refine pairs_disp ts _ _ hz fun l H2 e2 hr => ?_
  have hd2 : H2 d = some (.dK []) := e2 _ _ upd_same
  refine ⟨hd2, kS l, ?_, ?_, ?_⟩
  · unfold kS
    rw [List.map_map]
    rfl
  · rw [kS_len, hr.len]
    exact hl
  · rw [mergeK_new l (by rw [hr.keys]; exact hn)]
    exact q d l _ hd (((Ex.new hd).trans e2).mut hd) upd_same (hr.mono fun v a h => lstR_upd hd2 (fun _ z => nomatch z) h)
/-- a plain question, new -/
def EvPl (te : TE) (σ : L2.St) (H : Hp) (P : P0 → Prop) : Prop := ∀ H1, Ex H H1 → ∀ Q : VK, (∀ d p H2, Ex H1 H2 → PlA H2 d p → P p → Q (.ref d) H2) → te σ H1 Q
theorem ep_plain {σ : L2.St} {H : Hp} {td tg : TE} {tb : Tabs0} {gr : List Str} (hd : EvDQ td σ H (fun l H' => RelR lstR H' l tb)) (hg : ∀ H1, Ex H H1 → EvL tg σ H1 (gr.map V.str)) (hn : (tb.map (·.1)).Nodup) (hz : tb.length ≤ 1000) : EvPl (tCl sp__law_plain (tCons td (tCons tg tNil))) σ H (fun p => p = ⟨tb, gr, ones tb⟩) := fun H1 e Q q =>
  hd H1 e _ fun t l H2 ht e2 h2 hr => hg H2 (e.trans e2) H2 (Ex.refl H2) _ fun g H3 hg' e3 h3 => ⟨t, g, l, tb, gr, rfl, e3 _ _ h2, hr.mono (lstR_ex e3), hn, hz, h3, fun d z l2 H' hd' hz' hdz e4 hp hz2 hr2 => q d _ H' ((e2.trans e3).trans e4) ⟨t, g, z, l, l2, hp, e4 _ _ (e3 _ _ h2), (hr.mono (lstR_ex e3)).mono (lstR_ex e4), e4 _ _ h3, hz2, hr2⟩ rfl⟩
theorem ones_lookup {tb : Tabs0} {e : Str × List Str} (he : e ∈ tb) : (ones tb).lookup e.1 = some (1, 1) := by
  have : ones tb = (tb.map (·.1)).map fun n => (n, (1, 1)) := by
    unfold ones
    rw [List.map_map]
    rfl
  rw [this]
  exact lookup_map (g := fun _ => ((1, 1) : Int × Int)) (List.mem_map.mpr ⟨e, he, rfl⟩)
theorem gen_ones {tb : Tabs0} {gr : List Str} (h : genB ⟨tb, gr, []⟩ = true) (hn : (tb.map (·.1)).Nodup) : GenP ⟨tb, gr, ones tb⟩ := by
  refine ⟨h, hn, fun e he => ⟨(1, 1), ones_lookup he, List.mem_cons_self⟩, fun e he => ?_⟩
  obtain ⟨x, _, rfl⟩ := List.mem_map.mp he
  exact List.mem_cons_self

end K08

namespace K08
open PySem PySem.Spec PyProof.Rows L2 Evl
/-! ### try: a clause with 'as', then a clause without a name -/
section
variable {X : Cx} {x y n : Str} {c c2 : Value} {i : Nat} {body su su2 : List Stmt} {f₁ f₂ : Stmt} {np np2 pos pos1 pos2 : Pos} {tb : WX → TS} {ts ts2 : Addr → Value → Option Addr → TS} {Wo : WX}
theorem ps_try_as2 (hs : X.stack = X.env :: X.outer) (hf : X.env.frame = some X.env.locals) (nd : X.N.Nodup) (hi : X.N[i]? = some n) (kn : X.env.kindOf n = some .local) (hc : Names X x c) (hc2 : Names X y c2) (tk : Takes X Wo)
    (hb : ∀ (W : WX) (pn : List (Addr × Obj)) (xe : Value → Shared → Prop), Takes (X.tr pn xe) W → PassesOwn (model X.prog X.w) X.A X.env xe → PSs (X.tr pn xe) body (tb W))
    (h1 : ∀ (a : Addr) (oe : Obj) (cls : Value) (d : Option Addr) (pn : List (Addr × Obj)), Zc cls d oe → (∃ vs, oe.data = .fields vs) → PSs (X.suite a ((a, oe) :: pn)) (f₁ :: su) (ts a cls d))
    (h2 : ∀ (a : Addr) (oe : Obj) (cls : Value) (d : Option Addr) (pn : List (Addr × Obj)), Zc cls d oe → (∃ vs, oe.data = .fields vs) → PSs (X.suite a ((a, oe) :: pn)) (f₂ :: su2) (ts2 a cls d)) :
    PS X (.Try body [.ExceptHandler (some (.Name x np)) (some n) (f₁ :: su) pos1, .ExceptHandler (some (.Name y np2)) none (f₂ :: su2) pos2] [] [] pos) (fun D σ H => tb (wAs X.K c i ts (wMany X.K Wo D [(c2, ts2)]) D) D σ H) := by
  refine ⟨fun pins s σ H D I h => ?_⟩
  have ok := I.ok
  have hfr : X.A.frames = some (X.env :: X.outer) := by rw [ok.frames, hs]
  refine wpAny_Try_except ?_
  refine wpAny_mono ((hb (wAs X.K c i ts (wMany X.K Wo D [(c2, ts2)]) D) (X.pn ++ pins) (fun u s₁ => wpAny (model X.prog X.w) X.A (noteFrame u X.env) (fun _ s₂ => wpAny (model X.prog X.w) X.A (setFlight u none) (fun _ s₃ =>
    wpAny (model X.prog X.w) X.A (handleBy u X.env [.ExceptHandler (some (.Name x np)) (some n) (f₁ :: su) pos1, .ExceptHandler (some (.Name y np2)) none (f₂ :: su2) pos2]) (SP X pins D) X.xe s₃) X.xe s₂) X.xe s₁) (fun u s' xx => ?_) PassesOwn.looking).run [] s σ H D (I.toTry _) h) (fun fl s1 hsp => ?_) (fun u s1 hu => hu)
  · obtain ⟨a, B, sI, pins', σ', H', cls, d, rfl, Jt, nb, up, sky, na, os, ag, b, eb, yes, no⟩ := xx
    have J : Inv X pins σ' H' sI := Jt.ofTry ok
    have sky1 : Sky B (X.env :: X.outer) a (Zc cls d) X.env.locals s'.heap := by rw [← hs]; exact sky
    show wpAny (model X.prog X.w) X.A (noteFrame (.ref a) X.env) _ _ _
    refine Sky.land Zc.steady hfr hf sky1 fun h3 L3 up3 => ?_
    have J3 : Inv X pins σ' H' { s' with heap := h3 } := J.landed nb L3.1 (up.trans up3) os ag
    obtain ⟨oe, ve, he, hz, hd⟩ := L3.there
    have notIn : a ∉ frs (X.env :: X.outer) := fun hm => by
      obtain ⟨_, o', e', hnf⟩ := L3.2.2.1.mem hm
      rw [he] at e'
      cases e'
      exact hnf _ hd
    have nLoc : a ≠ X.env.locals := fun z => notIn (List.mem_filterMap.mpr ⟨X.env, List.mem_cons_self, by rw [hf, z]⟩)
    have nFs : a ∉ X.fs := fun hm => by
      obtain ⟨v, hv, q⟩ := List.mem_filterMap.mp hm
      exact notIn (List.mem_filterMap.mpr ⟨v, List.mem_cons_of_mem _ hv, q⟩)
    have S3 := J3.suite he hd na nLoc nFs
    have names : ∀ {z : Str} {cz : Value} {pz : Pos}, Names X z cz → ∀ {Q E : Value → Shared → Prop}, Q cz { s' with heap := h3 } → wpAny (model X.prog X.w) (X.A.mark (some (.ref a))) (eval (.Name z pz) X.env) Q E { s' with heap := h3 } := fun {z cz pz} hz {Q E} q => by
      rcases hz with ⟨g1, g2, m | ⟨m, bv, nn⟩⟩
      · exact ld_glob (X := X.suite a ((a, oe) :: (X.pn ++ pins))) S3 g1 m q g2
      · exact ld_blt (X := X.suite a ((a, oe) :: (X.pn ++ pins))) S3 g1 m bv q nn g2
    have looks : PySem.W.Looks (model X.prog X.w) h3 (typeOf (.ref a)) cls := fun A Q E s k q => wpAny_typeOf_ref (k _ _ he) (by rw [hz.1]; exact q)
    refine wpAny_handleBy_cons (codeAny_handlers_test (names hc ((PySem.W.exm_one (M := model X.prog X.w) J3.kIn looks eb).here ?_))) (by intro q; cases q)
    cases b with
    | true =>
      refine codeAny_handlers_suite_as (HandSPX.lands_againZ L3 fun h4 L4 up4 => ?_)
      have J4 : Inv X pins σ' H' { s' with heap := h4 } := J.landed nb L4.1 ((up.trans up3).trans up4) os ag
      obtain ⟨o4, v4, he4, hz4, hd4⟩ := L4.there
      refine store_ok (X := X.suite a ((a, o4) :: (X.pn ++ pins))) (v := .ref a) (J4.suite he4 hd4 na nLoc nFs) nd hi (.inl kn) rfl (fun s5 S5 => ?_) (.inr kn)
      refine wpAny_mono ((h1 a o4 cls d (X.pn ++ pins) hz4 ⟨_, hd4⟩).run [] s5 _ H' _ S5 (yes rfl a na)) (fun fl s6 hsp => ?_) (fun _ _ z => z.elim)
      have fin : ∀ {σ6 : L2.St} {H6 : Hp} {Q : Shared → Prop}, Inv (X.suite a ((a, o4) :: (X.pn ++ pins))) [] σ6 H6 s6 → (∀ s7, Inv X pins (σ6.set i none) H6 s7 → Q s7) →
          wpAny (model X.prog X.w) X.A (do bindName X.env n .none; unbindBehindTheSuite X.env n pos1) (fun _ s7 => Q s7) X.xe s6 := fun {_ _ _} S6 hq => gone_ok (S6.unsuite ok) nd hi kn hq
      cases fl with
      | ret u =>
        obtain ⟨_, _, _, S6, r6, q6⟩ := hsp
        exact fin S6 fun _ J7 => ⟨_, _, _, J7, r6, q6⟩
      | next =>
        obtain ⟨_, _, S6, q6⟩ := hsp
        exact fin S6 fun _ J7 => ⟨_, _, J7, q6⟩
      | brk =>
        obtain ⟨_, _, S6, q6⟩ := hsp
        exact fin S6 fun _ J7 => ⟨_, _, J7, q6⟩
      | cont =>
        obtain ⟨_, _, S6, q6⟩ := hsp
        exact fin S6 fun _ J7 => ⟨_, _, J7, q6⟩
    | false =>
      obtain ⟨b', eb', yes', no'⟩ := no rfl
      show wpAny _ X.A (handleBy (.ref a) X.env [.ExceptHandler (some (.Name y np2)) none (f₂ :: su2) pos2]) _ _ _
      refine wpAny_handleBy_cons (codeAny_handlers_test (names hc2 ((PySem.W.exm_one (M := model X.prog X.w) J3.kIn looks eb').here ?_))) (by intro q; cases q)
      cases b' with
      | true =>
        refine codeAny_handlers_suite (HandSPX.lands_againZ L3 fun h4 L4 up4 => ?_)
        have J4 : Inv X pins σ' H' { s' with heap := h4 } := J.landed nb L4.1 ((up.trans up3).trans up4) os ag
        obtain ⟨o4, v4, he4, hz4, hd4⟩ := L4.there
        refine wpAny_mono ((h2 a o4 cls d (X.pn ++ pins) hz4 ⟨_, hd4⟩).run [] _ _ H' _ (J4.suite he4 hd4 na nLoc nFs) (yes' rfl a na)) (fun fl s6 hsp => ?_) (fun _ _ z => z.elim)
        cases fl with
        | ret u =>
          obtain ⟨_, _, _, S6, r6, q6⟩ := hsp
          exact ⟨_, _, _, S6.unsuite ok, r6, q6⟩
        | next =>
          obtain ⟨_, _, S6, q6⟩ := hsp
          exact ⟨_, _, S6.unsuite ok, q6⟩
        | brk =>
          obtain ⟨_, _, S6, q6⟩ := hsp
          exact ⟨_, _, S6.unsuite ok, q6⟩
        | cont =>
          obtain ⟨_, _, S6, q6⟩ := hsp
          exact ⟨_, _, S6.unsuite ok, q6⟩
      | false =>
        show wpAny _ X.A (handleBy (.ref a) X.env []) _ _ _
        refine wpAny_handleBy_nil ?_
        obtain ⟨_, _, _, o9, vs9, T, oT, ts', e9, z9, d9, f9, r9⟩ := id L3
        unfold PySem.passOn
        refine wpAny_bind (wpAny_field e9 d9 f9 ?_)
        rw [if_neg (show ¬ ((Value.ref T == Value.none) = true) from by simp)]
        have out : wpAny (model X.prog X.w) X.A (setFlight (.ref a) X.env.frame) (fun _ s4 => wpAny (model X.prog X.w) X.A (throw (.ref a) : Sem Flow) (SP X pins D) X.xe s4) X.xe { s' with heap := h3 } := by
          rw [hf]
          refine HandSPX.setFlight_upZ L3 fun h4 hh4 up4 => wpAny_throw (tk _ _ ?_)
          exact ⟨a, B, sI, pins, σ', H', cls, d, rfl, J, nb, (up.trans up3).trans up4, .inr (.inr (by rw [hs]; exact hh4)), na, os, ag, no' rfl⟩
        first
          | exact wpAny_bind (wpAny_pure (wpAny_bind out))
          | exact wpAny_bind out
  · cases fl with
    | next =>
      obtain ⟨_, _, J', q⟩ := hsp
      exact wpAny_execs_nil ⟨_, _, J'.ofTry ok, q⟩
    | brk =>
      obtain ⟨_, _, J', q⟩ := hsp
      exact ⟨_, _, J'.ofTry ok, q⟩
    | cont =>
      obtain ⟨_, _, J', q⟩ := hsp
      exact ⟨_, _, J'.ofTry ok, q⟩
    | ret u =>
      obtain ⟨_, _, _, J', r, q⟩ := hsp
      exact ⟨_, _, _, J'.ofTry ok, r, q⟩
end

end K08

namespace K08
open PySem PySem.Spec PyProof.Rows L2 Evl
/-! ### lines of a plain question, in any order (plain) -/
inductive Itm where
  | tb (n : Str) (c : List Str)
  | sz (n : Str) (z : Int × Int)
  | gr (g : List Str)
def textI : Itm → Str
  | .tb n c => tableText n c
  | .sz n z => sizeText n z
  | .gr g => groupText g
def keyI : Itm → Nat × Str
  | .tb n _ => (0, n)
  | .sz n _ => (1, n)
  | .gr _ => (2, "")
def ItmOk : Itm → Prop
  | .tb n c => isName n = true ∧ lawNames c = true
  | .sz n z => isName n = true ∧ RatT (ratText z.1 z.2) z.1 z.2 ∧ 32 ∉ TL.tl (ratText z.1 z.2)
  | .gr g => lawNames g = true
def putI (s : QS) : Itm → QS
  | .tb n c => { s with tb := s.tb ++ [(n, c)] }
  | .sz n z => { s with sz := s.sz ++ [(n, z)] }
  | .gr g => { s with gr := some g }
def FreeI (s : QS) : Itm → Prop
  | .tb n _ => s.tb.lookup n = none
  | .sz n _ => s.sz.lookup n = none
  | .gr _ => s.gr = none
theorem abc_space : (32 : Nat) ∉ abc.cps.toList := by decide +kernel
theorem name_space {z : Str} (h : isName z = true) : 32 ∉ TL.tl z := fun hm => by
  unfold isName at h
  rw [Bool.and_eq_true, List.all_eq_true] at h
  exact abc_space (of_decide_eq_true (h.2 32 hm))
theorem names_space {l : List Str} (h : lawNames l = true) : ∀ z ∈ l, 32 ∉ TL.tl z := fun z hz => by
  unfold lawNames areNames at h
  rw [Bool.and_eq_true, Bool.and_eq_true, List.all_eq_true] at h
  exact name_space (h.2.1 z hz)
theorem words_join {l : List Str} (hn : l ≠ []) (h : ∀ z ∈ l, 32 ∉ TL.tl z) : wordsOf (Txt.join " " l) = l := TL.split_join (s := 32) (S := []) tl_space (by decide +kernel) hn h
theorem sizeText_join (n : Str) (z : Int × Int) : sizeText n z = Txt.join " " ["size", n, ratText z.1 z.2] := by
  rw [TL.join_eq]
  unfold sizeText
  show _ = "size" ++ " " ++ (n ++ " " ++ ratText z.1 z.2)
  rw [app_assoc, app_assoc]
theorem sp_table : 32 ∉ TL.tl ("table" : Str) := by decide +kernel
theorem sp_size : 32 ∉ TL.tl ("size" : Str) := by decide +kernel
theorem sp_group : 32 ∉ TL.tl ("group" : Str) := by decide +kernel
theorem wordsI {i : Itm} (h : ItmOk i) : wordsOf (textI i) = match i with | .tb n c => "table" :: n :: c | .sz n z => ["size", n, ratText z.1 z.2] | .gr g => "group" :: g := by
  cases i with
  | tb n c =>
    refine words_join (List.cons_ne_nil _ _) fun z hz => ?_
    rcases List.mem_cons.mp hz with rfl | hz
    · exact sp_table
    rcases List.mem_cons.mp hz with rfl | hz
    · exact name_space h.1
    · exact names_space h.2 z hz
  | sz n z =>
    show wordsOf (sizeText n z) = _
    rw [sizeText_join]
    refine words_join (List.cons_ne_nil _ _) fun y hy => ?_
    rcases List.mem_cons.mp hy with rfl | hy
    · exact sp_size
    rcases List.mem_cons.mp hy with rfl | hy
    · exact name_space h.1
    rw [List.mem_singleton.mp hy]
    exact h.2.2
  | gr g =>
    refine words_join (List.cons_ne_nil _ _) fun z hz => ?_
    rcases List.mem_cons.mp hz with rfl | hz
    · exact sp_group
    · exact names_space h z hz
theorem step_itm {s : QS} {i : Itm} (h : ItmOk i) (hf : FreeI s i) : stepLine s (some (textI i)) = some (putI s i) := by
  show stepWords s (wordsOf (textI i)) = _
  rw [wordsI h]
  cases i with
  | tb n c =>
    refine step_table (w := "table") (r := n :: c) ?_
    unfold tabIf
    have hf' : s.tb.lookup n = none := hf
    show (decide (("table" : Str) = "table") && (isName n && (lawNames c && !(s.tb.lookup n).isSome))) = true
    rw [h.1, h.2, hf']
    decide
  | sz n z =>
    have hf' : s.sz.lookup n = none := hf
    show stepWords s ("size" :: [n, ratText z.1 z.2]) = _
    rw [step_size]
    · show (ratOf (ratText z.1 z.2)).map _ = _
      rw [ratOf_some h.2.1]
      rfl
    · show (decide (("size" : Str) = "size") && (decide (2 = 2) && (isName n && !(s.sz.lookup n).isSome))) = true
      rw [h.1, hf', decide_eq_true (rfl : ("size" : Str) = "size")]
      rfl
  | gr g =>
    have hf' : s.gr = none := hf
    refine step_group (w := "group") (r := g) ?_
    show (decide (("group" : Str) = "group") && (lawNames g && s.gr.isNone)) = true
    rw [show lawNames g = true from h, hf']
    decide
theorem lookup_snoc {α : Type} {l : List (Str × α)} {n m : Str} {v : α} (h : l.lookup m = none) (hne : m ≠ n) : (l ++ [(n, v)]).lookup m = none := by
  rw [List.lookup_append, h, List.lookup_cons, beq_false_of_ne hne]
  rfl
theorem free_put {s : QS} {i j : Itm} (h : FreeI s j) (hne : keyI i ≠ keyI j) : FreeI (putI s i) j := by
  cases i <;> cases j <;> first | exact h | skip
  · exact lookup_snoc h fun e => hne (by show ((0 : Nat), _) = (0, _); rw [e])
  · exact lookup_snoc h fun e => hne (by show ((1 : Nat), _) = (1, _); rw [e])
  · exact absurd rfl hne
theorem look_nodup {α : Type} {l : List (Str × α)} {n : Str} {v : α} (hn : (l.map (·.1)).Nodup) (h : l.lookup n = none) : ((l ++ [(n, v)]).map (·.1)).Nodup := by
  rw [List.map_append]
  refine nd_snoc hn fun hm => ?_
  have := isSome_mem (z := n) (m := l)
  rw [h, decide_eq_true hm] at this
  cases this
theorem take_items : ∀ (is : List Itm) (s : QS) (k : Nat), (∀ i ∈ is, ItmOk i) → (∀ i ∈ is, FreeI s i) → (is.map keyI).Nodup → (s.tb.map (·.1)).Nodup → (s.sz.map (·.1)).Nodup →
    takeAll s k (is.map fun i => some (textI i)) = .inr (is.foldl putI s) ∧ ((is.foldl putI s).tb.map (·.1)).Nodup ∧ ((is.foldl putI s).sz.map (·.1)).Nodup
  | [], s, k, _, _, _, h1, h2 => ⟨rfl, h1, h2⟩
  | i :: r, s, k, ho, hf, hk, h1, h2 => by
    have hi := ho i List.mem_cons_self
    have fi := hf i List.mem_cons_self
    rw [List.map_cons] at hk
    have hk' := List.nodup_cons.mp hk
    have ih := take_items r (putI s i) (k + 1) (fun j hj => ho j (List.mem_cons_of_mem _ hj)) (fun j hj => free_put (hf j (List.mem_cons_of_mem _ hj)) fun e => hk'.1 (by rw [e]; exact List.mem_map.mpr ⟨j, hj, rfl⟩)) hk'.2
      (by cases i with
        | tb n c => exact look_nodup h1 fi
        | sz n z => exact h1
        | gr g => exact h1)
      (by cases i with
        | tb n c => exact h2
        | sz n z => exact look_nodup h2 fi
        | gr g => exact h2)
    refine ⟨?_, ih.2⟩
    rw [List.map_cons, takeAll, step_itm hi fi]
    exact ih.1
/-- states alike but for the order -/
structure Sim (s t : QS) : Prop where
  tb : s.tb.Perm t.tb
  sz : s.sz.Perm t.sz
  gr : s.gr = t.gr
theorem Sim.refl (s : QS) : Sim s s := ⟨.refl _, .refl _, rfl⟩
theorem Sim.trans {s t u : QS} (a : Sim s t) (b : Sim t u) : Sim s u := ⟨a.tb.trans b.tb, a.sz.trans b.sz, a.gr.trans b.gr⟩
theorem sim_put {s t : QS} (h : Sim s t) (i : Itm) : Sim (putI s i) (putI t i) := by
  cases i with
  | tb n c => exact ⟨h.tb.append_right _, h.sz, h.gr⟩
  | sz n z => exact ⟨h.tb, h.sz.append_right _, h.gr⟩
  | gr g => exact ⟨h.tb, h.sz, rfl⟩
theorem sim_fold : ∀ (is : List Itm) {s t : QS}, Sim s t → Sim (is.foldl putI s) (is.foldl putI t)
  | [], _, _, h => h
  | i :: r, _, _, h => sim_fold r (sim_put h i)
theorem perm_two {α : Type} (l : List α) (x y : α) : (l ++ [x] ++ [y]).Perm (l ++ [y] ++ [x]) := by
  rw [List.append_assoc, List.append_assoc]
  exact List.Perm.append_left l (List.Perm.swap y x [])
theorem sim_swap (s : QS) {i j : Itm} (hne : keyI i ≠ keyI j) : Sim (putI (putI s i) j) (putI (putI s j) i) := by
  cases i <;> cases j
  · exact ⟨perm_two _ _ _, .refl _, rfl⟩
  · exact Sim.refl _
  · exact Sim.refl _
  · exact Sim.refl _
  · exact ⟨.refl _, perm_two _ _ _, rfl⟩
  · exact Sim.refl _
  · exact Sim.refl _
  · exact Sim.refl _
  · exact absurd rfl hne
theorem fold_perm {is js : List Itm} (hp : is.Perm js) : (is.map keyI).Nodup → ∀ {s t : QS}, Sim s t → Sim (is.foldl putI s) (js.foldl putI t) := by
  induction hp with
  | nil => exact fun _ _ _ h => h
  | cons x _ ih => exact fun hk _ _ h => ih (List.nodup_cons.mp hk).2 (sim_put h x)
  | swap x y l =>
    intro hk s t h
    rw [List.map_cons, List.map_cons] at hk
    have hne : keyI y ≠ keyI x := fun e => (List.nodup_cons.mp hk).1 (by rw [e]; exact List.mem_cons_self)
    exact sim_fold l ((sim_swap s hne).trans (sim_put (sim_put h x) y))
  | trans h1 _ ih1 ih2 =>
    intro hk s t h
    exact (ih1 hk (Sim.refl s)).trans (ih2 ((h1.map keyI).nodup_iff.mp hk) h)
theorem look_perm {α : Type} {l m : List (Str × α)} (hp : l.Perm m) (hn : (l.map (·.1)).Nodup) (z : Str) : l.lookup z = m.lookup z := by
  have hn' := (hp.map (·.1)).nodup_iff.mp hn
  cases h : l.lookup z with
  | some v => exact (mem_lookup hn' (hp.mem_iff.mp (lookup_mem h))).symm
  | none =>
    cases h' : m.lookup z with
    | none => rfl
    | some v =>
      rw [mem_lookup hn (hp.mem_iff.mpr (lookup_mem h'))] at h
      cases h
theorem all_perm {α : Type} {l m : List α} (hp : l.Perm m) (f : α → Bool) : l.all f = m.all f := by
  rw [Bool.eq_iff_iff, List.all_eq_true, List.all_eq_true]
  exact ⟨fun h x hx => h x (hp.mem_iff.mpr hx), fun h x hx => h x (hp.mem_iff.mp hx)⟩
theorem res_sim {s t : QS} (h : Sim s t) (h1 : (s.tb.map (·.1)).Nodup) (h2 : (s.sz.map (·.1)).Nodup) : resOf (.inr s) = resOf (.inr t) := by
  have lt := look_perm h.tb h1
  have lz := look_perm h.sz h2
  have hc : colsOf s.tb = colsOf t.tb := setSort_eq fun z => by
    rw [List.mem_flatMap, List.mem_flatMap]
    exact ⟨fun ⟨e, he, hz⟩ => ⟨e, h.tb.mem_iff.mp he, hz⟩, fun ⟨e, he, hz⟩ => ⟨e, h.tb.mem_iff.mpr he, hz⟩⟩
  have hn : namesOf' s.tb = namesOf' t.tb := setSort_eq fun z => (h.tb.map (·.1)).mem_iff
  have hp : isParts s.tb (s.gr.getD []) s.sz = isParts t.tb (t.gr.getD []) t.sz := by
    unfold isParts isTables
    rw [h.tb.length_eq, all_perm h.tb, hc, h.gr, all_perm h.sz]
    congr 2
    refine congrArg (fun f => t.sz.all f) (funext fun e => ?_)
    rw [lt]
  have hl : linesOf s.tb (s.gr.getD []) s.sz = linesOf t.tb (t.gr.getD []) t.sz := by
    unfold linesOf colOf sizeOf'
    rw [hn, h.gr]
    simp only [lt, lz]
  show (if _ then _ else _) = (if _ then _ else _)
  rw [hp, hl]
theorem told_perm {is js : List Itm} (hp : is.Perm js) (ho : ∀ i ∈ is, ItmOk i) (hk : (is.map keyI).Nodup) : toldOf (is.map fun i => some (textI i)) = toldOf (js.map fun i => some (textI i)) := by
  have f0 : ∀ i : Itm, FreeI qs0 i := fun i => by cases i <;> rfl
  obtain ⟨a1, a2, a3⟩ := take_items is qs0 0 ho (fun i _ => f0 i) hk List.nodup_nil List.nodup_nil
  obtain ⟨b1, _, _⟩ := take_items js qs0 0 (fun i hi => ho i (hp.mem_iff.mpr hi)) (fun i _ => f0 i) ((hp.map keyI).nodup_iff.mp hk) List.nodup_nil List.nodup_nil
  unfold toldOf
  rw [a1, b1]
  exact res_sim (fold_perm hp hk (Sim.refl _)) a2 a3
theorem perm_back {α β : Type} (f : α → β) {ys l : List β} (hp : ys.Perm l) : ∀ is : List α, l = is.map f → ∃ js : List α, js.Perm is ∧ ys = js.map f := by
  induction hp with
  | nil =>
    intro is h
    exact ⟨[], by rw [List.map_eq_nil_iff.mp h.symm], rfl⟩
  | @cons x l1 l2 _ ih =>
    intro is h
    match is, h with
    | i :: r, h =>
      obtain ⟨rfl, h'⟩ := List.cons.inj (show x :: l2 = f i :: r.map f from h)
      obtain ⟨js, p, e⟩ := ih r h'
      exact ⟨i :: js, p.cons i, by rw [e]; rfl⟩
  | swap x y l =>
    intro is h
    match is, h with
    | [], h => cases h
    | [i], h => cases h
    | i :: j :: r, h =>
      obtain ⟨e1, h'⟩ := List.cons.inj (show x :: y :: l = f i :: f j :: r.map f from h)
      obtain ⟨e2, e3⟩ := List.cons.inj h'
      subst e1
      subst e2
      subst e3
      exact ⟨j :: i :: r, .swap i j r, rfl⟩
  | trans _ _ ih1 ih2 =>
    intro is h
    obtain ⟨js, p, e⟩ := ih2 is h
    obtain ⟨ks, p2, e2⟩ := ih1 js e
    exact ⟨ks, p2.trans p, e2⟩

end K08

namespace K08
open PySem PySem.Spec PyProof.Rows L2 Evl
/-! ### _law_written -/
def sp__law_written : Sp := fun vs H Q _ => ∃ k : Int, vs = [.int k] ∧ ∀ d p H', Ex H H' → PlA H' d p → GenP p → Q (.ref d) H'
theorem len__law_written : ∀ vs H Q E, sp__law_written vs H Q E → vs.length = 1 := fun vs H Q E ⟨_, e, _⟩ => by rw [e]; rfl
theorem ep_const {σ : L2.St} {H : Hp} (tb : Tabs0) (gr : List Str) (h : genB ⟨tb, gr, []⟩ = true) (hn : (tb.map (·.1)).Nodup) (hz : tb.all (fun e => decide (e.2.length ≤ 1000)) = true) (hg : gr.length ≤ 1000) (hl : tb.length ≤ 15) : EvPl (tCl sp__law_plain (tCons (tDisp (dispT tb)) (tCons (tLst (consT gr)) tNil))) σ H GenP := fun H1 e Q q =>
  ep_plain (ed_disp hn hl fun e he => of_decide_eq_true (List.all_eq_true.mp hz e he)) (fun _ _ => el_consT hg) hn (by omega) H1 e Q fun d p H2 e2 hp hpp => q d p H2 e2 hp (by rw [hpp]; exact gen_ones h hn)
theorem ep_name {σ : L2.St} {H : Hp} {td : TE} {t : Addr} {l : List (Str × V)} (tb : Tabs0) (gr : List Str) (h : genB ⟨tb, gr, []⟩ = true) (hn : (tb.map (·.1)).Nodup) (hg : gr.length ≤ 1000) (hl : tb.length ≤ 15) (hd : Ev td σ H (.ref t)) (ht : H t = some (.dK (kS l))) (hr : RelR lstR H l tb) : EvPl (tCl sp__law_plain (tCons td (tCons (tLst (consT gr)) tNil))) σ H GenP := fun H1 e Q q =>
  hd H1 e _ fun H2 e2 => el_consT hg H2 (Ex.refl H2) _ fun g H3 hg' e3 h3 => ⟨t, g, l, tb, gr, rfl, e3 _ _ ((e.trans e2) _ _ ht), hr.mono (lstR_ex ((e.trans e2).trans e3)), hn, by omega, h3, fun d z l2 H' hd' hz' hdz e4 hp hz2 hr2 => q d ⟨tb, gr, ones tb⟩ H' ((e2.trans e3).trans e4) ⟨t, g, z, l, l2, hp, e4 _ _ (e3 _ _ ((e.trans e2) _ _ ht)), hr.mono (lstR_ex (((e.trans e2).trans e3).trans e4)), e4 _ _ h3, hz2, hr2⟩ (gen_ones h hn)⟩
theorem s_retP {σ : L2.St} {H : Hp} {te : TE} {P : P0 → Prop} {D : Ends} (h : EvPl te σ H P) (k : ∀ d p H1, Ex H H1 → PlA H1 d p → P p → D.rt (.ref d) H1) : tRet te D σ H := h H (Ex.refl H) _ fun d p H1 e1 hp hP => k d p H1 e1 hp hP
def t__law_written (K : PySem.W.Frag) : TS :=
  (tSeq (tIfS (tTest (tOp rEq (tVar 0) (tC (.int 0)))) (tRet (tCl sp__law_plain (tCons (tDisp [((tC (.str "r")), (tLst (tCons (tC (.str "a")) (tCons (tC (.str "b")) tNil)))), ((tC (.str "s")), (tLst (tCons (tC (.str "b")) (tCons (tC (.str "c")) tNil)))), ((tC (.str "t")), (tLst (tCons (tC (.str "a")) (tCons (tC (.str "c")) tNil))))]) (tCons (tLst tNil) tNil)))) tNext)
    (tSeq (tIfS (tTest (tOp rEq (tVar 0) (tC (.int 1)))) (tRet (tCl sp__law_plain (tCons (tDisp [((tC (.str "r")), (tLst (tCons (tC (.str "a")) (tCons (tC (.str "b")) tNil)))), ((tC (.str "s")), (tLst (tCons (tC (.str "a")) (tCons (tC (.str "c")) tNil)))), ((tC (.str "u")), (tLst (tCons (tC (.str "a")) tNil)))]) (tCons (tLst (tCons (tC (.str "a")) tNil)) tNil)))) tNext)
    (tSeq (tIfS (tTest (tOp rEq (tVar 0) (tC (.int 2)))) (tRet (tCl sp__law_plain (tCons (tDisp [((tC (.str "r")), (tLst (tCons (tC (.str "a")) (tCons (tC (.str "b")) tNil)))), ((tC (.str "s")), (tLst (tCons (tC (.str "b")) (tCons (tC (.str "c")) tNil)))), ((tC (.str "t")), (tLst (tCons (tC (.str "c")) (tCons (tC (.str "d")) tNil))))]) (tCons (tLst tNil) tNil)))) tNext)
    (tSeq (tIfS (tTest (tOp rEq (tVar 0) (tC (.int 3)))) (tSeq (tAsg (tDisp [((tC (.str "r")), (tLst (tCons (tC (.str "a")) (tCons (tC (.str "b")) tNil)))), ((tC (.str "s")), (tLst (tCons (tC (.str "b")) (tCons (tC (.str "c")) tNil)))), ((tC (.str "t")), (tLst (tCons (tC (.str "a")) (tCons (tC (.str "c")) tNil)))), ((tC (.str "u")), (tLst (tCons (tC (.str "d")) tNil)))]) (gName 1))
    (tRet (tCl sp__law_plain (tCons (tVar 1) (tCons (tLst (tCons (tC (.str "a")) (tCons (tC (.str "b")) (tCons (tC (.str "c")) tNil)))) tNil))))) tNext)
    (tSeq (tIfS (tTest (tOp rEq (tVar 0) (tC (.int 4)))) (tRet (tCl sp__law_plain (tCons (tDisp [((tC (.str "r")), (tLst (tCons (tC (.str "a")) (tCons (tC (.str "x")) tNil)))), ((tC (.str "s")), (tLst (tCons (tC (.str "a")) (tCons (tC (.str "y")) tNil)))), ((tC (.str "t")), (tLst (tCons (tC (.str "a")) tNil))), ((tC (.str "u")), (tLst (tCons (tC (.str "x")) (tCons (tC (.str "y")) tNil))))]) (tCons (tLst tNil) tNil)))) tNext)
    (tSeq (tIfS (tTest (tOp rEq (tVar 0) (tC (.int 5)))) (tRet (tCl sp__law_plain (tCons (tDisp [((tC (.str "r")), (tLst (tCons (tC (.str "a")) (tCons (tC (.str "b")) (tCons (tC (.str "c")) tNil))))), ((tC (.str "s")), (tLst (tCons (tC (.str "a")) (tCons (tC (.str "b")) tNil)))), ((tC (.str "t")), (tLst (tCons (tC (.str "a")) (tCons (tC (.str "d")) tNil)))), ((tC (.str "u")), (tLst (tCons (tC (.str "a")) (tCons (tC (.str "b")) (tCons (tC (.str "c")) tNil)))))]) (tCons (tLst (tCons (tC (.str "a")) tNil)) tNil)))) tNext)
    (tSeq (tIfS (tTest (tOp rEq (tVar 0) (tC (.int 6)))) (tRet (tCl sp__law_plain (tCons (tDisp [((tC (.str "only")), (tLst (tCons (tC (.str "a")) (tCons (tC (.str "b")) (tCons (tC (.str "c")) tNil)))))]) (tCons (tLst (tCons (tC (.str "b")) tNil)) tNil)))) tNext)
    (tRet (tCl sp__law_plain (tCons (tDisp [((tC (.str "r")), (tLst (tCons (tC (.str "a")) (tCons (tC (.str "b")) tNil)))), ((tC (.str "s")), (tLst (tCons (tC (.str "c")) tNil))), ((tC (.str "t")), (tLst (tCons (tC (.str "c")) (tCons (tC (.str "d")) tNil))))]) (tCons (tLst (tCons (tC (.str "b")) (tCons (tC (.str "d")) tNil))) tNil)))))))))))
def w0 : Tabs0 := [("r", ["a", "b"]), ("s", ["b", "c"]), ("t", ["a", "c"])]
def w1 : Tabs0 := [("r", ["a", "b"]), ("s", ["a", "c"]), ("u", ["a"])]
def w2 : Tabs0 := [("r", ["a", "b"]), ("s", ["b", "c"]), ("t", ["c", "d"])]
def w3 : Tabs0 := [("r", ["a", "b"]), ("s", ["b", "c"]), ("t", ["a", "c"]), ("u", ["d"])]
def w4 : Tabs0 := [("r", ["a", "x"]), ("s", ["a", "y"]), ("t", ["a"]), ("u", ["x", "y"])]
def w5 : Tabs0 := [("r", ["a", "b", "c"]), ("s", ["a", "b"]), ("t", ["a", "d"]), ("u", ["a", "b", "c"])]
def w6 : Tabs0 := [("only", ["a", "b", "c"])]
def w7 : Tabs0 := [("r", ["a", "b"]), ("s", ["c"]), ("t", ["c", "d"])]
def plT (tb : Tabs0) (gr : List Str) : TS := tRet (tCl sp__law_plain (tCons (tDisp (dispT tb)) (tCons (tLst (consT gr)) tNil)))
def ifT (n : Int) (t : TS) : TS := tIfS (tTest (tOp rEq (tVar 0) (tC (.int n)))) t tNext
def heldT (tb : Tabs0) (gr : List Str) : TS := tSeq (tAsg (tDisp (dispT tb)) (gName 1)) (tRet (tCl sp__law_plain (tCons (tVar 1) (tCons (tLst (consT gr)) tNil))))
theorem t_written {K : PySem.W.Frag} : t__law_written K = tSeq (ifT 0 (plT w0 [])) (tSeq (ifT 1 (plT w1 ["a"])) (tSeq (ifT 2 (plT w2 [])) (tSeq (ifT 3 (heldT w3 ["a", "b", "c"])) (tSeq (ifT 4 (plT w4 [])) (tSeq (ifT 5 (plT w5 ["a"])) (tSeq (ifT 6 (plT w6 ["b"])) (plT w7 ["b", "d"]))))))) := rfl
theorem nd0 : (w0.map (·.1)).Nodup := by decide +kernel
theorem nd1 : (w1.map (·.1)).Nodup := by decide +kernel
theorem nd2 : (w2.map (·.1)).Nodup := by decide +kernel
theorem nd3 : (w3.map (·.1)).Nodup := by decide +kernel
theorem nd4 : (w4.map (·.1)).Nodup := by decide +kernel
theorem nd5 : (w5.map (·.1)).Nodup := by decide +kernel
theorem nd6 : (w6.map (·.1)).Nodup := by decide +kernel
theorem nd7 : (w7.map (·.1)).Nodup := by decide +kernel
/-- what is wanted of a plain question -/
def WantP (H0 : Hp) (Q : VK) : Prop := ∀ d p H', Ex H0 H' → PlA H' d p → GenP p → Q (.ref d) H'
theorem WantP.go {H0 H : Hp} {Q : VK} (q : WantP H0 Q) (e : Ex H0 H) : WantP H Q := fun d p H' e' hp hg => q d p H' (e.trans e') hp hg
structure WrOk (tb : Tabs0) (gr : List Str) : Prop where
  b : genB ⟨tb, gr, []⟩ = true
  nd : (tb.map (·.1)).Nodup
  z : tb.all (fun e => decide (e.2.length ≤ 1000)) = true
  g : gr.length ≤ 1000
  l : tb.length ≤ 15
theorem pl_ok {σ : L2.St} {H : Hp} {Q : VK} {nx : L2.St → Hp → Prop} {tb : Tabs0} {gr : List Str} (q : WantP H Q) (h : WrOk tb gr) : plT tb gr { nx := nx, rt := Q } σ H :=
  s_retP (ep_const tb gr h.b h.nd h.z h.g h.l) fun d p H2 e2 hp hP => q d p H2 e2 hp hP
theorem q_asgDQ {σ : L2.St} {H : Hp} {te : TE} {i : Nat} {P : List (Str × V) → Hp → Prop} {D : Ends} {tz : TS} (h : EvDQ te σ H P) (k : ∀ p l H1, H p = none → Ex H H1 → H1 p = some (.dK (kS l)) → P l H1 → tz D (σ.set i (some (.ref p))) H1) : tSeq (tAsg te (gName i)) tz D σ H :=
  h H (Ex.refl H) _ fun p l H1 a b c d => k p l H1 a b c d
theorem held_ok {k : V} {H : Hp} {Q : VK} {nx : L2.St → Hp → Prop} {tb : Tabs0} {gr : List Str} (q : WantP H Q) (h : WrOk tb gr) : heldT tb gr { nx := nx, rt := Q } [some k, none] H := by
  unfold heldT
  refine q_asgDQ (ed_disp (ts := tb) h.nd h.l fun e he => of_decide_eq_true (List.all_eq_true.mp h.z e he)) fun t l H5 ht e5 h5 hr => ?_
  exact s_retP (σ := [some k, some (.ref t)]) (ep_name tb gr h.b h.nd h.g h.l (ev_var rfl) h5 hr) fun d p H6 e6 hp hP => q d p H6 (e5.trans e6) hp hP
theorem wr0 : WrOk w0 [] := ⟨by decide +kernel, nd0, by decide +kernel, by decide, by decide +kernel⟩
theorem wr1 : WrOk w1 ["a"] := ⟨by decide +kernel, nd1, by decide +kernel, by decide, by decide +kernel⟩
theorem wr2 : WrOk w2 [] := ⟨by decide +kernel, nd2, by decide +kernel, by decide, by decide +kernel⟩
theorem wr3 : WrOk w3 ["a", "b", "c"] := ⟨by decide +kernel, nd3, by decide +kernel, by decide, by decide +kernel⟩
theorem wr4 : WrOk w4 [] := ⟨by decide +kernel, nd4, by decide +kernel, by decide, by decide +kernel⟩
theorem wr5 : WrOk w5 ["a"] := ⟨by decide +kernel, nd5, by decide +kernel, by decide, by decide +kernel⟩
theorem wr6 : WrOk w6 ["b"] := ⟨by decide +kernel, nd6, by decide +kernel, by decide, by decide +kernel⟩
theorem wr7 : WrOk w7 ["b", "d"] := ⟨by decide +kernel, nd7, by decide +kernel, by decide, by decide +kernel⟩
theorem way_if {k n : Int} {H : Hp} {D : Ends} {t tz : TS} (h1 : ∀ H1, Ex H H1 → t { D with nx := tz D } [some (.int k), none] H1) (h2 : ∀ H1, Ex H H1 → tz D [some (.int k), none] H1) : tSeq (ifT n t) tz D [some (.int k), none] H :=
  q_when (et_test (ev_op (ev_var rfl) ev_c (rv_eq rfl))) (fun _ H1 e1 => h1 H1 e1) fun _ H1 e1 => h2 H1 e1
theorem pure__law_written {K : PySem.W.Frag} {vs : List V} {H : Hp} {Q : VK} {E : XK} (h : sp__law_written vs H Q E) : t__law_written K { nx := fun _ H' => Q .non H', rt := Q } (start ["_law_way", "_law_tables"] vs) H := by
  obtain ⟨k, rfl, q⟩ := h
  rw [t_written]
  have q : WantP H Q := q
  refine way_if (fun H1 e1 => pl_ok (q.go e1) wr0) fun H1 e1 => ?_
  replace q := q.go e1
  refine way_if (fun H2 e2 => pl_ok (q.go e2) wr1) fun H2 e2 => ?_
  replace q := q.go e2
  refine way_if (fun H3 e3 => pl_ok (q.go e3) wr2) fun H3 e3 => ?_
  replace q := q.go e3
  refine way_if (fun H4 e4 => held_ok (q.go e4) wr3) fun H4 e4 => ?_
  replace q := q.go e4
  refine way_if (fun H5 e5 => pl_ok (q.go e5) wr4) fun H5 e5 => ?_
  replace q := q.go e5
  refine way_if (fun H6 e6 => pl_ok (q.go e6) wr5) fun H6 e6 => ?_
  replace q := q.go e6
  refine way_if (fun H7 e7 => pl_ok (q.go e7) wr6) fun H7 e7 => ?_
  exact pl_ok (q.go e7) wr7
theorem sc__law_written : FnScope ["_law_way", "_law_tables"] ["_law_way"] (defScope s__law_written) := ⟨rfl, rfl, rfl, by decide +kernel, rfl, by decide +kernel, by decide +kernel⟩
theorem d__law_written {P : Program} {w : World} {K : PySem.W.Frag} {mg : Str → Option Value} {base : Heap} (T : Txt K mg) {f : Addr} {cdv : Value} {A : Around} {outer : List Env} {s : Shared} {H : Hp} {E : XK} (hr : Room 1 (A.deeper (envOfC "_law_written" (defScope s__law_written) s.heap.objs.size f cdv))) :
    PSs (cxOf CX0 P w K mg base ["_law_way", "_law_tables"] "_law_written" (defScope s__law_written) f cdv A outer s H E).nox (defBody s__law_written) (t__law_written K) := by
  have hu := hu_of hr
  exact (pss_cons (ps_if (pt_cmpR op_eq (pv 0) pe_int (nomark _)) (pss_one (ps_ret (pe_cl (cl__law_plain T) hr (pa_cons (pe_disp (pps_cons pe_str (pe_lst (pa_cons pe_str (pa_cons pe_str pa_nil))) (pps_cons pe_str (pe_lst (pa_cons pe_str (pa_cons pe_str pa_nil))) (pps_cons pe_str (pe_lst (pa_cons pe_str (pa_cons pe_str pa_nil))) pps_nil))) (by rfl) (by rfl) (fun z => by cases z) (by decide)) (pa_cons (pe_lst pa_nil) pa_nil))))) pss_nil)
      (pss_cons (ps_if (pt_cmpR op_eq (pv 0) pe_int (nomark _)) (pss_one (ps_ret (pe_cl (cl__law_plain T) hr (pa_cons (pe_disp (pps_cons pe_str (pe_lst (pa_cons pe_str (pa_cons pe_str pa_nil))) (pps_cons pe_str (pe_lst (pa_cons pe_str (pa_cons pe_str pa_nil))) (pps_cons pe_str (pe_lst (pa_cons pe_str pa_nil)) pps_nil))) (by rfl) (by rfl) (fun z => by cases z) (by decide)) (pa_cons (pe_lst (pa_cons pe_str pa_nil)) pa_nil))))) pss_nil)
      (pss_cons (ps_if (pt_cmpR op_eq (pv 0) pe_int (nomark _)) (pss_one (ps_ret (pe_cl (cl__law_plain T) hr (pa_cons (pe_disp (pps_cons pe_str (pe_lst (pa_cons pe_str (pa_cons pe_str pa_nil))) (pps_cons pe_str (pe_lst (pa_cons pe_str (pa_cons pe_str pa_nil))) (pps_cons pe_str (pe_lst (pa_cons pe_str (pa_cons pe_str pa_nil))) pps_nil))) (by rfl) (by rfl) (fun z => by cases z) (by decide)) (pa_cons (pe_lst pa_nil) pa_nil))))) pss_nil)
      (pss_cons (ps_if (pt_cmpR op_eq (pv 0) pe_int (nomark _)) (pss_cons (ps_asg (pe_disp (pps_cons pe_str (pe_lst (pa_cons pe_str (pa_cons pe_str pa_nil))) (pps_cons pe_str (pe_lst (pa_cons pe_str (pa_cons pe_str pa_nil))) (pps_cons pe_str (pe_lst (pa_cons pe_str (pa_cons pe_str pa_nil))) (pps_cons pe_str (pe_lst (pa_cons pe_str pa_nil)) pps_nil)))) (by rfl) (by rfl) (fun z => by cases z) (by decide)) (pg_name (i := 1) sc__law_written.nd rfl (Or.inl rfl)))
      (pss_one (ps_ret (pe_cl (cl__law_plain T) hr (pa_cons (pv 1) (pa_cons (pe_lst (pa_cons pe_str (pa_cons pe_str (pa_cons pe_str pa_nil)))) pa_nil)))))) pss_nil)
      (pss_cons (ps_if (pt_cmpR op_eq (pv 0) pe_int (nomark _)) (pss_one (ps_ret (pe_cl (cl__law_plain T) hr (pa_cons (pe_disp (pps_cons pe_str (pe_lst (pa_cons pe_str (pa_cons pe_str pa_nil))) (pps_cons pe_str (pe_lst (pa_cons pe_str (pa_cons pe_str pa_nil))) (pps_cons pe_str (pe_lst (pa_cons pe_str pa_nil)) (pps_cons pe_str (pe_lst (pa_cons pe_str (pa_cons pe_str pa_nil))) pps_nil)))) (by rfl) (by rfl) (fun z => by cases z) (by decide)) (pa_cons (pe_lst pa_nil) pa_nil))))) pss_nil)
      (pss_cons (ps_if (pt_cmpR op_eq (pv 0) pe_int (nomark _)) (pss_one (ps_ret (pe_cl (cl__law_plain T) hr (pa_cons (pe_disp (pps_cons pe_str (pe_lst (pa_cons pe_str (pa_cons pe_str (pa_cons pe_str pa_nil)))) (pps_cons pe_str (pe_lst (pa_cons pe_str (pa_cons pe_str pa_nil))) (pps_cons pe_str (pe_lst (pa_cons pe_str (pa_cons pe_str pa_nil))) (pps_cons pe_str (pe_lst (pa_cons pe_str (pa_cons pe_str (pa_cons pe_str pa_nil)))) pps_nil)))) (by rfl) (by rfl) (fun z => by cases z) (by decide)) (pa_cons (pe_lst (pa_cons pe_str pa_nil)) pa_nil))))) pss_nil)
      (pss_cons (ps_if (pt_cmpR op_eq (pv 0) pe_int (nomark _)) (pss_one (ps_ret (pe_cl (cl__law_plain T) hr (pa_cons (pe_disp (pps_cons pe_str (pe_lst (pa_cons pe_str (pa_cons pe_str (pa_cons pe_str pa_nil)))) pps_nil) (by rfl) (by rfl) (fun z => by cases z) (by decide)) (pa_cons (pe_lst (pa_cons pe_str pa_nil)) pa_nil))))) pss_nil)
      (pss_one (ps_ret (pe_cl (cl__law_plain T) hr (pa_cons (pe_disp (pps_cons pe_str (pe_lst (pa_cons pe_str (pa_cons pe_str pa_nil))) (pps_cons pe_str (pe_lst (pa_cons pe_str pa_nil)) (pps_cons pe_str (pe_lst (pa_cons pe_str (pa_cons pe_str pa_nil))) pps_nil))) (by rfl) (by rfl) (fun z => by cases z) (by decide)) (pa_cons (pe_lst (pa_cons pe_str (pa_cons pe_str pa_nil))) pa_nil))))))))))))
theorem ok__law_written {P : Program} {w : World} {K : PySem.W.Frag} {mg : Str → Option Value} {base : Heap} (T : Txt K mg) : FnOk P w K mg base CX0 2 T.l_written.f T.l_written.fd ["_law_way"] (sp__law_written) :=
  ok0 T.l_written.F sc__law_written len__law_written fun cdv A outer s H vs Q E hr h => ⟨t__law_written K, d__law_written T hr, pure__law_written h⟩
theorem cl__law_written {P : Program} {w : World} {K : PySem.W.Frag} {mg : Str → Option Value} {base : Heap} (T : Txt K mg) : Cl P w K mg base 2 "_law_written" sp__law_written := cl_of T.l_written (ok__law_written T) fun _ _ _ _ _ _ us hl => match us, hl with | [_], _ => rfl

end K08

namespace K08
open PySem PySem.Spec PyProof.Rows L2 Evl
/-! ### drawn things: what is known of them is a predicate -/
/-- values of which each is R -/
def EvAR (ta : TA) (σ : L2.St) (H : Hp) (R : V → Hp → Prop) (n : Nat) : Prop := ∀ H1, Ex H H1 → ∀ Q : List V → Hp → Prop, (∀ vs H2, Ex H1 H2 → vs.length = n → (∀ v ∈ vs, R v H2) → Q vs H2) → ta σ H1 Q
/-- a list, new or old, of which P is known -/
def EvWQ (te : TE) (σ : L2.St) (H : Hp) (P : List V → Hp → Prop) : Prop := ∀ H1, Ex H H1 → ∀ Q : VK, (∀ p ys H2, Ex H1 H2 → H2 p = some (.lst ys) → P ys H2 → Q (.ref p) H2) → te σ H1 Q
def Stable (R : V → Hp → Prop) : Prop := ∀ v H H', Ex H H' → R v H → R v H'
def StableL (P : List V → Hp → Prop) : Prop := ∀ v H H', Ex H H' → P v H → P v H'
abbrev IntTo (m : Int) : V → Hp → Prop := fun v _ => ∃ r, v = .int r ∧ 0 ≤ r ∧ r < m
section
variable {K : PySem.W.Frag} {σ : L2.St} {H H' : Hp} {td te tl tn : TE} {ta tr : TA} {tt : TT} {d : Addr} {xs ys : List V} {R : V → Hp → Prop} {P : List V → Hp → Prop} {n : Nat} {m : Int}
theorem EvLQ.mono {Q : List V → Hp → Prop} (h : EvLQ te σ H P) (hq : ∀ ys H1, P ys H1 → Q ys H1) : EvLQ te σ H Q := fun H1 e Q' q => h H1 e Q' fun p ys H2 a b c d => q p ys H2 a b c (hq _ _ d)
theorem EvLQ.go (e : Ex H H') (h : EvLQ te σ H P) : EvLQ te σ H' P := fun H1 e1 => h H1 (e.trans e1)
theorem EvLQ.w (h : EvLQ te σ H P) : EvWQ te σ H P := fun H1 e Q q => h H1 e Q fun p ys H2 _ b c d => q p ys H2 b c d
theorem EvL.lq (h : EvL te σ H xs) : EvLQ te σ H (fun ys _ => ys = xs) := fun H1 e Q q => h H1 e Q fun p H2 a b c => q p _ H2 a b c rfl
theorem EvW.wq (h : EvW te σ H xs) : EvWQ te σ H (fun ys _ => ys = xs) := fun H1 e Q q => h H1 e Q fun p H2 b c => q p _ H2 b c rfl
theorem ear_nil : EvAR tNil σ H R 0 := fun H1 _ _ q => q [] H1 (Ex.refl H1) rfl fun _ h => nomatch h
theorem ear_cons (hR : Stable R) (h : EvQ te σ H R) (hr : EvAR tr σ H R n) : EvAR (tCons te tr) σ H R (n + 1) := fun H1 e Q q =>
  h H1 e _ fun v H2 e2 hv => hr H2 (e.trans e2) _ fun vs H3 e3 hl hs => q (v :: vs) H3 (e2.trans e3) (by rw [List.length_cons, hl]) fun w hw => by
    rcases List.mem_cons.mp hw with rfl | hw
    · exact hR _ _ _ e3 hv
    · exact hs w hw
theorem elq_lst (hR : Stable R) (h : EvAR ta σ H R n) (hn : n ≤ 100000) : EvLQ (tLst ta) σ H (fun ys H' => ys.length = n ∧ ∀ v ∈ ys, R v H') := fun H1 e Q q =>
  h H1 e _ fun vs H2 e2 hl hs => ⟨sz_of (by omega), fun p hp => q p vs _ (fresh_back e2 hp) (e2.trans (Ex.new hp)) upd_same ⟨hl, fun v hv => hR _ _ _ (Ex.new hp) (hs v hv)⟩⟩
theorem eq_pickW (hR : Stable R) (hd : Ev td σ H (.ref d)) (hD : H d = some (DiceO d)) (hl : EvWQ tl σ H (fun ys H' => 1 ≤ ys.length ∧ ys.length ≤ 900 ∧ ∀ v ∈ ys, R v H')) : EvQ (tCl (sp__law_pick K) (tCons td (tCons tl tNil))) σ H R := fun H1 e Q q =>
  hd H1 e _ fun H2 e2 => hl H2 (e.trans e2) _ fun p ys H3 e3 hx ⟨h1, h2, h3⟩ => ⟨d, .ref p, ys, rfl, e3 _ _ (e2 _ _ (e _ _ hD)), .inl ⟨p, rfl, SqL.of hx⟩, h1, h2, fun H' x e' hm => q x H' ((e2.trans e3).trans e') (hR _ _ _ e' (h3 x hm))⟩
theorem eq_pickL {l : List V} (hd : Ev td σ H (.ref d)) (hD : H d = some (DiceO d)) (hl : EvW tl σ H l) (h1 : 1 ≤ l.length) (h2 : l.length ≤ 900) : EvQ (tCl (sp__law_pick K) (tCons td (tCons tl tNil))) σ H (fun v _ => v ∈ l) :=
  eq_pickW (fun _ _ _ _ h => h) hd hD fun H1 e Q q => hl H1 e Q fun p H2 e2 hx => q p l H2 e2 hx ⟨h1, h2, fun _ h => h⟩
theorem eq_pickS {z : Str} (hd : Ev td σ H (.ref d)) (hD : H d = some (DiceO d)) (h1 : 1 ≤ (sgn z).length) (h2 : (sgn z).length ≤ 900) : EvQ (tCl (sp__law_pick K) (tCons td (tCons (tC (.str z)) tNil))) σ H (fun v _ => v ∈ sgn z) := fun H1 e Q q =>
  hd H1 e _ fun H2 e2 => ⟨d, .str z, sgn z, rfl, e2 _ _ (e _ _ hD), .inr ⟨z, rfl, rfl⟩, h1, h2, fun H' x e' hm => q x H' (e2.trans e') hm⟩
theorem elq_mixed (hd : Ev td σ H (.ref d)) (hD : H d = some (DiceO d)) (hl : EvW tl σ H xs) (hz : xs.length ≤ 900) : EvLQ (tCl (sp__law_mixed K) (tCons td (tCons tl tNil))) σ H (fun ys _ => ys.Perm xs) := fun H1 e Q q =>
  hd H1 e _ fun H2 e2 => hl H2 (e.trans e2) _ fun p H3 e3 hx => ⟨d, p, xs, rfl, e3 _ _ (e2 _ _ (e _ _ hD)), SqL.of hx, hz, fun r H' ys hr e4 hy hp => q r ys H' (fresh_back (e2.trans e3) hr) ((e2.trans e3).trans e4) hy hp⟩
theorem cut_take (xs : List V) (k : Nat) : cutV xs none (some (k : Int)) = xs.take k := by
  unfold cutV
  rw [HT.sIx_nat, HT.sIx_none, List.drop_zero, Nat.sub_zero]
  by_cases h : k ≤ xs.length
  · rw [Nat.min_eq_left h]
  · rw [Nat.min_eq_right (by omega), List.take_length, List.take_of_length_le (by omega)]
/-- l[:1 + a number drawn] -/
theorem elq_cut (h : EvLQ te σ H P) (hn : ∀ H1, Ex H H1 → EvQ tn σ H1 (IntTo m)) : EvLQ (L2.tSl (rSlL K) te tNoPart (tPart (tOp rPlus (tC (.int 1)) tn))) σ H (fun zs _ => ∃ ys k H1, P ys H1 ∧ zs = ys.take k ∧ 1 ≤ k ∧ (k : Int) ≤ m) := fun H1 e Q q =>
  h H1 e _ fun p ys H2 hp e2 hx hP => by
    show tNoPart σ H2 fun l H3 => tPart (tOp rPlus (tC (.int 1)) tn) σ H3 fun u H4 => rSlL K (.ref p) l u H4 Q
    refine eo_none (σ := σ) (H := H2) H2 (Ex.refl H2) _ fun H3 e3 => ?_
    show tC (.int 1) σ H3 fun a H4 => tn σ H4 fun b H5 => rPlus a b H5 fun v H6 => ∃ i, v = .int i ∧ rSlL K (.ref p) none (some i) H6 Q
    refine hn H3 ((e.trans e2).trans e3) H3 (Ex.refl H3) _ fun v H4 e4 hv => ?_
    obtain ⟨r, rfl, r0, r1⟩ := hv
    have e24 := (e2.trans e3).trans e4
    refine ⟨1, r, rfl, rfl, 1 + r, rfl, p, ys, rfl, SqL.of (e4 _ _ (e3 _ _ hx)), fun z hz => ?_⟩
    obtain ⟨k, hk⟩ : ∃ k : Nat, 1 + r = (k : Int) := ⟨(1 + r).toNat, (Int.toNat_of_nonneg (by omega)).symm⟩
    exact q z _ _ (fresh_back e24 hz) (e24.trans (Ex.new hz)) upd_same ⟨ys, k, H2, hP, by rw [hk, cut_take], by omega, by omega⟩
/-- sorted(a list of texts) -/
theorem elq_sorted {Pz : List Str → Prop} (h : EvLQ te σ H (fun zs _ => ∃ ns : List Str, zs = ns.map V.str ∧ ns.length < 64 ∧ Pz ns)) : EvLQ (tCB (rSortedS K) (tCons te tNil)) σ H (fun ys _ => ∃ ns ms : List Str, ys = ms.map V.str ∧ Pz ns ∧ ms.Perm ns ∧ sortedS ms = true) := fun H1 e Q q =>
  h H1 e _ fun p ys H2 hp e2 hx ⟨ns, e3, h1, h2⟩ => ⟨p, ns, rfl, by subst e3; exact SqL.of hx, h1, fun ms r hm hs hr => q r _ _ (fresh_back e2 hr) (e2.trans (Ex.new hr)) upd_same ⟨ns, ms, rfl, h2, hm, hs⟩⟩
theorem map_inj_str {a b : List Str} (h : a.map V.str = b.map V.str) : a = b := by
  induction a generalizing b with
  | nil => cases b with
    | nil => rfl
    | cons y s => cases h
  | cons x r ih => cases b with
    | nil => cases h
    | cons y s =>
      rw [List.map_cons, List.map_cons] at h
      obtain ⟨h1, h2⟩ := List.cons.inj h
      cases h1
      rw [ih h2]
/-- sorted(_law_mixed(dice, texts)[:1 + a number drawn]) -/
theorem elq_draw {cs : List Str} (hd : Ev td σ H (.ref d)) (hD : H d = some (DiceO d)) (hl : EvW tl σ H (cs.map V.str)) (hn : ∀ H1, Ex H H1 → EvQ tn σ H1 (IntTo m)) (nd : cs.Nodup) (c1 : 1 ≤ cs.length) (cz : cs.length < 64) :
    EvLQ (tCB (rSortedS K) (tCons (L2.tSl (rSlL K) (tCl (sp__law_mixed K) (tCons td (tCons tl tNil))) tNoPart (tPart (tOp rPlus (tC (.int 1)) tn))) tNil)) σ H (fun ys _ => ∃ ms : List Str, ys = ms.map V.str ∧ Asc ms ∧ (∀ z ∈ ms, z ∈ cs) ∧ 1 ≤ ms.length ∧ (ms.length : Int) ≤ m) := by
  refine (elq_sorted (Pz := fun ns => ns.Nodup ∧ (∀ z ∈ ns, z ∈ cs) ∧ 1 ≤ ns.length ∧ (ns.length : Int) ≤ m) ((elq_cut (elq_mixed hd hD hl (by rw [List.length_map]; omega)) hn).mono fun zs _ hz => ?_)).mono fun ys _ hy => ?_
  · obtain ⟨ys, k, _, hp, rfl, k1, k2⟩ := hz
    obtain ⟨js, hj, rfl⟩ := perm_back V.str hp cs rfl
    have hlen : js.length = cs.length := hj.length_eq
    refine ⟨js.take k, by rw [List.map_take], by rw [List.length_take]; omega, (hj.nodup_iff.mpr nd).sublist (List.take_sublist k js), fun z hz => hj.mem_iff.mp (List.mem_of_mem_take hz), by rw [List.length_take]; omega, by rw [List.length_take]; omega⟩
  · obtain ⟨ns, ms, rfl, ⟨h1, h2, h3, h4⟩, hp, hs⟩ := hy
    exact ⟨ms, rfl, sorted_asc hs (hp.nodup_iff.mpr h1), fun z hz => h2 z (hp.mem_iff.mp hz), by rw [hp.length_eq]; exact h3, by rw [hp.length_eq]; exact h4⟩
/-- [x for x in xs if a test whose outcome is drawn] -/
theorem elq_some {wi : TI} {j : Nat} {vs : List Nat} (h : Src wi σ H xs) (hz : xs.length ≤ 40000) (hw : ∀ x, wipe ((wipe σ vs).set j (some x)) vs = wipe σ vs)
    (ht : ∀ (x : V) H1, Ex H H1 → ∀ Q : Bool → Hp → Prop, (∀ b H2, Ex H1 H2 → Q b H2) → tt ((wipe σ vs).set j (some x)) H1 Q) (hj : ∀ x, ((wipe σ vs).set j (some x))[j]? = some (some x)) : EvLQ (tLc wi (gName j) tt (tVar j) vs) σ H (fun ys _ => ys.Sublist xs) := fun H0 e Q q =>
  h H0 e _ fun J H1 e1 w Dl hD => lc_it w (fun i H' => Ex H1 H' ∧ ∃ ys, H' Dl = some (.lst ys) ∧ ys.Sublist (xs.take i)) ⟨Ex.new hD, [], upd_same, List.nil_sublist _⟩ (fun i H' _ p => p.1)
    (fun i x H' H'' hi p y => by
      obtain ⟨e2, hx⟩ := y
      subst e2
      obtain ⟨p1, ys, p2, p3⟩ := p
      have htk : xs.take (i + 1) = xs.take i ++ [x] := by rw [List.take_add_one, hx]; rfl
      refine ⟨hw x, ht x H'' ((e.trans e1).trans p1) _ fun b H3 e3 => ?_⟩
      cases b with
      | true =>
        rw [if_pos rfl]
        refine ⟨x, hj x, ys, e3 _ _ p2, sz_lt ?_, (p1.trans e3).mut hD, ys ++ [x], upd_same, ?_⟩
        · have := p3.length_le
          rw [List.length_take] at this
          omega
        · rw [htk]
          exact p3.append (List.Sublist.refl _)
      | false =>
        rw [if_neg (by decide)]
        exact ⟨p1.trans e3, ys, e3 _ _ p2, by rw [htk]; exact p3.trans (List.sublist_append_left _ _)⟩)
    (fun H' p => by
      obtain ⟨p1, ys, p2, p3⟩ := p
      rw [List.take_length] at p3
      exact q Dl ys H' (fresh_back e1 hD) (e1.trans p1) p2 p3)
/-- a number drawn is compared -/
theorem etq_roll {k : Int} (h : EvQ te σ H (IntTo m)) : ∀ H1, Ex H H1 → ∀ Q : Bool → Hp → Prop, (∀ b H2, Ex H1 H2 → Q b H2) → tTest (tOp rEq te (tC (.int k))) σ H1 Q := fun H1 e Q q =>
  h H1 e _ fun v H2 e2 ⟨r, ev, _⟩ => by
    subst ev
    show rEq (.int r) (.int k) H2 fun x H' => ∃ b, x = .bl b ∧ Q b H'
    exact rv_eq (H := H2) (x := .int r) (y := .int k) rfl H2 (Ex.refl H2) _ fun H3 e3 => ⟨_, rfl, q _ H3 (e2.trans e3)⟩
theorem eq_rollC {td : TE} {n : Int} (hd : Ev td σ H (.ref d)) (hD : H d = some (DiceO d)) (h1 : 1 ≤ n) (h2 : n ≤ 1000) : EvQ (tClD sp__law_roll (tCons td (tCons (tC (.int n)) tNil))) σ H (IntTo n) := eq_roll hd ev_c hD h1 h2
end
theorem q_asgLQ {σ : L2.St} {H : Hp} {te : TE} {i : Nat} {P : List V → Hp → Prop} {D : Ends} {tz : TS} (h : EvLQ te σ H P) (k : ∀ p ys H1, H p = none → Ex H H1 → H1 p = some (.lst ys) → P ys H1 → tz D (σ.set i (some (.ref p))) H1) : tSeq (tAsg te (gName i)) tz D σ H :=
  h H (Ex.refl H) _ fun p ys H1 a b c d => k p ys H1 a b c d

end K08

namespace K08
open PySem PySem.Spec PyProof.Rows L2 Evl
def nsC : List Str := ["r", "s", "t", "u", "ab", "table", "zzzzzzzz"]
def csC : List Str := ["a", "b", "c", "d", "x", "zz"]
structure DrawC (c : List Str) : Prop where
  asc : Asc c
  sub : ∀ z ∈ c, z ∈ csC
  lo : 1 ≤ c.length
  hi : c.length ≤ 3
theorem nsC_ok : ∀ z ∈ nsC, isName z = true := List.all_eq_true.mp (by decide +kernel)
theorem csC_ok : ∀ z ∈ csC, isName z = true := List.all_eq_true.mp (by decide +kernel)
theorem csC_two : ∀ z ∈ csC, z.length ≤ 2 := fun z hz => of_decide_eq_true (List.all_eq_true.mp (show csC.all (fun z => decide (z.length ≤ 2)) = true by decide +kernel) z hz)
theorem csC_asc : Asc csC := asc_iff.mp (by decide +kernel)
theorem nsC_nd : nsC.Nodup := by decide +kernel
theorem csC_nd : csC.Nodup := by decide +kernel
theorem sub_len {l : List Str} (h : Asc l) (hs : ∀ z ∈ l, z ∈ csC) : l.length ≤ 6 := by
  have e : l = csC.filter fun z => decide (z ∈ l) := asc_ext h (csC_asc.sublist List.filter_sublist) fun z => by
    rw [List.mem_filter, decide_eq_true_eq]
    exact ⟨fun hz => ⟨hs z hz, hz⟩, fun hz => hz.2⟩
  rw [e]
  exact List.length_filter_le _ csC
theorem names_of {l : List Str} (h : Asc l) (hs : ∀ z ∈ l, isName z = true) : areNames l = true := by
  unfold areNames
  rw [List.all_eq_true.mpr hs, asc_iff.mpr h]
  rfl
theorem gen_of {ns gr : List Str} {tb : Tabs0} {sz : Sizs0} (hk : tb.map (·.1) = ns) (n1 : Asc ns) (n2 : ∀ z ∈ ns, z ∈ nsC) (n0 : 1 ≤ ns.length) (n3 : ns.length ≤ 3) (ht : ∀ e ∈ tb, DrawC e.2) (g1 : Asc gr) (g2 : ∀ z ∈ gr, z ∈ csC) (hz : sz.map (·.1) = tb.map (·.1)) (h6 : ∀ e ∈ sz, e.2 ∈ six) : GenP ⟨tb, gr, sz⟩ := by
  have hl : tb.length = ns.length := by rw [← hk, List.length_map]
  refine ⟨?_, by rw [hk]; exact asc_nodup n1, fun e he => ?_, h6⟩
  · unfold genB
    rw [Bool.and_eq_true, Bool.and_eq_true, List.all_eq_true]
    refine ⟨decide_eq_true (by show 1 ≤ tb.length ∧ tb.length ≤ 4; omega), fun e he => ?_, ?_⟩
    · have hc := ht e he
      have hl := hc.lo
      have h1 : isName e.1 = true := nsC_ok _ (n2 _ (by rw [← hk]; exact List.mem_map.mpr ⟨e, he, rfl⟩))
      have h2 : lawNames e.2 = true := by
        unfold lawNames
        rw [names_of hc.asc fun z hz => csC_ok z (hc.sub z hz), decide_eq_false (fun q => by rw [q] at hl; exact absurd hl (by decide))]
        rfl
      rw [h1, h2, decide_eq_true hc.hi, List.all_eq_true.mpr fun z hz => decide_eq_true (csC_two z (hc.sub z hz))]
      rfl
    · have h2 : areNames gr = true := names_of g1 fun z hz => csC_ok z (g2 z hz)
      show (areNames gr && (decide (gr.length ≤ 6) && gr.all fun z => decide (z.length ≤ 2))) = true
      rw [h2, decide_eq_true (sub_len g1 g2), List.all_eq_true.mpr fun z hz => decide_eq_true (csC_two z (g2 z hz))]
      rfl
  · have hm : e.1 ∈ sz.map (·.1) := by rw [hz]; exact List.mem_map.mpr ⟨e, he, rfl⟩
    obtain ⟨v, hv⟩ := some_of_mem hm
    exact ⟨v, hv, h6 _ (lookup_mem hv)⟩
theorem flatK_le {α β : Type} {f : α → List β} {k : Nat} : ∀ {l : List α}, (∀ x ∈ l, (f x).length ≤ k) → (l.flatMap f).length ≤ k * l.length
  | [], _ => Nat.zero_le _
  | x :: r, h => by
    rw [List.flatMap_cons, List.length_append, List.length_cons, Nat.mul_succ]
    have h1 := h x List.mem_cons_self
    have h2 := flatK_le (f := f) (k := k) (l := r) fun y hy => h y (List.mem_cons_of_mem _ hy)
    omega
theorem put_old {l : List (Str × V)} {z : Str} {v w : V} (hl : l.lookup z = some w) : putK (kS l) (Sum.inr z) v = kS (l.map fun e => if e.1 = z then (e.1, v) else e) := by
  unfold putK
  rw [valV_any, valV_kS, hl]
  show (kS l).map _ = kS (l.map _)
  unfold kS
  rw [List.map_map, List.map_map]
  refine List.map_congr_left fun e _ => ?_
  show (if (Sum.inr e.1 : Key) = Sum.inr z then ((Sum.inr e.1 : Key), v) else (Sum.inr e.1, e.2)) = _
  by_cases h : e.1 = z
  · rw [if_pos (by rw [h]), Function.comp, if_pos h]
  · rw [if_neg (fun q => h (Sum.inr.inj q)), Function.comp, if_neg h]
theorem relR_old {α : Type} {R : Hp → V → α → Prop} {H : Hp} {l : List (Str × V)} {m : List (Str × α)} {z : Str} {v : V} {a : α} (h : RelR R H l m) (hv : R H v a) : RelR R H (l.map fun e => if e.1 = z then (e.1, v) else e) (m.map fun e => if e.1 = z then (e.1, a) else e) := by
  unfold RelR at h
  induction h with
  | nil => exact .nil
  | @cons e b _ _ hd _ ih =>
    refine .cons ?_ ih
    show (if e.1 = z then (e.1, v) else e).1 = (if b.1 = z then (b.1, a) else b).1 ∧ R H (if e.1 = z then (e.1, v) else e).2 (if b.1 = z then (b.1, a) else b).2
    rw [hd.1]
    by_cases hz : b.1 = z
    · rw [if_pos hz, if_pos hz]
      exact ⟨rfl, hv⟩
    · rw [if_neg hz, if_neg hz]
      exact hd
theorem keys_old {α : Type} {m : List (Str × α)} {z : Str} {a : α} : (m.map fun e => if e.1 = z then (e.1, a) else e).map (·.1) = m.map (·.1) := by
  rw [List.map_map]
  refine List.map_congr_left fun e _ => ?_
  show (if e.1 = z then (e.1, a) else e).1 = e.1
  split <;> rfl
def SixR (v : V) (H : Hp) : Prop := ∃ s, s ∈ six ∧ pairR H v s
theorem sixR_st : Stable SixR := fun _ _ _ e ⟨s, h1, h2⟩ => ⟨s, h1, pairR_ex e _ _ h2⟩
theorem ex_into {H H1 : Hp} {t : Addr} (e : Ex H H1) (n : H t = none) : Ex H (del H1 t) := fun b o hb => by
  rw [del_ne (ne_of_none hb n)]
  exact e _ _ hb
section
variable {K : PySem.W.Frag} {σ : L2.St} {H : Hp} {ta td ty tv : TE} {D : Ends} {tz : TS}
theorem eq_six {x y : Int} (h : (x, y) ∈ six) : EvQ (tTup (tCons (tC (.int x)) (tCons (tC (.int y)) tNil))) σ H SixR := fun H1 e Q q =>
  (eu_tup (ea_cons ev_c (ea_cons ev_c ea_nil)) (Nat.le_of_ble_eq_true rfl)) H1 e _ fun p H2 hp e2 hx => q _ _ e2 ⟨(x, y), h, p, rfl, hx⟩
theorem q_parLD {i j : Nat} {P : List V → Hp → Prop} (ha : EvLQ ta σ H P) (k : ∀ p ys t H1 H2, H p = none → H t = none → t ≠ p → Ex H H1 → H1 p = some (.lst ys) → P ys H1 → H1 t = none → H2 = upd H1 t (.dK []) → tz D ((σ.set i (some (.ref p))).set j (some (.ref t))) H2) : tSeq (tPar i j (tCons ta (tCons tDNewK tNil))) tz D σ H :=
  ha H (Ex.refl H) _ fun p ys H1 hp e1 hx hP => fun t ht => ⟨.ref p, .ref t, rfl, k p ys t H1 _ hp (fresh_back e1 ht) (fun z => by subst z; rw [hx] at ht; cases ht) e1 hx hP ht rfl⟩
theorem s_dputX {P : V → Hp → Prop} {d : Addr} {l : List (Str × V)} {z : Str} (hd : ∀ H1, Ex H H1 → Ev td σ H1 (.ref d)) (hy : ∀ H1, Ex H H1 → Ev ty σ H1 (.str z)) (hv : EvQ tv σ H P) (h : H d = some (.dK (kS l))) (hz : l.length < 100000) (k : ∀ v H1 H2, Ex H H1 → P v H1 → Ex H1 H2 → D.nx σ (upd H2 d (.dK (putK (kS l) (Sum.inr z) v)))) : sDPut td ty tv D σ H :=
  hv H (Ex.refl H) _ fun v H1 e1 p => hd H1 e1 H1 (Ex.refl H1) _ fun H2 e2 => hy H1 e1 H2 e2 _ fun H3 e3 => ⟨d, _, rfl, .inl ⟨kS l, Sum.inr z, e3 _ _ (e2 _ _ (e1 _ _ h)), rfl, by rw [kS_len]; exact sz_lt hz, rfl⟩, k v H1 H3 e1 p (e2.trans e3)⟩
end
theorem lstR_del {H : Hp} {z : Addr} {o : HO} {v : V} {c : List Str} (hz : H z = some o) (ho : ∀ xs, o ≠ .lst xs) (h : lstR H v c) : lstR (del H z) v c := by
  obtain ⟨t, h1, h2⟩ := h
  exact ⟨t, h1, by rw [del_ne (fun q => by subst q; rw [h2] at hz; exact ho _ (Option.some.inj hz).symm)]; exact h2⟩
abbrev drSt (d a b t : Addr) (x6 x7 : Option V) : L2.St := [some (.ref d), some (.int 3), some (.int 5), some (.ref a), some (.ref b), some (.ref t), x6, x7, none]
theorem rdD {kvs : List (Key × V)} : ∀ xs, HO.dK kvs ≠ .lst xs := fun _ z => nomatch z
theorem rdT {kvs : List (Key × V)} : ∀ xs, HO.dK kvs ≠ .tup xs := fun _ z => nomatch z
/-- the sizes are drawn -/
theorem dr_sizes {K : PySem.W.Frag} {H : Hp} {Q : VK} {nx : L2.St → Hp → Prop} {d a b t d' g z : Addr} {l l2 : List (Str × V)} {x6 : Option V} {ns gr : List Str} {tb : Tabs0} {sz : Sizs0} (hD : H d = some (DiceO d)) (ha : H a = some (.lst (ns.map V.str)))
    (hd : H d' = some (.dK (kS [("tables", .ref t), ("groups", .ref g), ("sizes", .ref z)]))) (ht : H t = some (.dK (kS l))) (hl : RelR lstR H l tb) (hg : H g = some (.lst (gr.map V.str))) (hz : H z = some (.dK (kS l2))) (hl2 : RelR pairR H l2 sz) (dz : d' ≠ z) (tz : t ≠ z)
    (hk : tb.map (·.1) = ns) (n1 : Asc ns) (n2 : ∀ z ∈ ns, z ∈ nsC) (n0 : 1 ≤ ns.length) (n3 : ns.length ≤ 3) (hc : ∀ e ∈ tb, DrawC e.2) (g1 : Asc gr) (g2 : ∀ z ∈ gr, z ∈ csC) (hkz : sz.map (·.1) = tb.map (·.1)) (h6 : ∀ e ∈ sz, e.2 ∈ six)
    (q : ∀ p H', Ex (del H z) H' → PlA H' d' p → GenP p → Q (.ref d') H') :
    tSeq (tIfS (tTest (tOp rEq (tClD sp__law_roll (tCons (tVar 0) (tCons (tC (.int 4)) tNil))) (tC (.int 0)))) (tFor (iList K (tVar 3)) (gName 6)
    (sDPut (tDGet (tVar 7) (tC (.str "sizes"))) (tVar 6) (tCl (sp__law_pick K) (tCons (tVar 0) (tCons (tLst (tCons (tTup (tCons (tC (.int 1)) (tCons (tC (.int 1)) tNil))) (tCons (tTup (tCons (tC (.int 1)) (tCons (tC (.int 2)) tNil))) (tCons (tTup (tCons (tC (.int 2)) (tCons (tC (.int 1)) tNil))) (tCons (tTup (tCons (tC (.int 0)) (tCons (tC (.int 1)) tNil))) (tCons (tTup (tCons (tC (.int 3)) (tCons (tC (.int 2)) tNil))) (tCons (tTup (tCons (tC (.int 1)) (tCons (tC (.int 3)) tNil))) tNil))))))) tNil))))) tNext)
    (tRet (tVar 7)) { nx := nx, rt := Q } (drSt d a b t x6 (some (.ref d'))) H := by
  refine etq_roll (eq_rollC (ev_var rfl) hD (by decide) (by decide)) H (Ex.refl H) _ fun c H1 e1 => ?_
  have az : a ≠ z := fun e => by subst e; rw [ha] at hz; cases hz
  have gz : g ≠ z := fun e => by subst e; rw [hg] at hz; cases hz
  have Dz : d ≠ z := fun e => by subst e; rw [hD] at hz; unfold DiceO at hz; cases hz
  have done : ∀ (x : Option V) (l2' : List (Str × V)) (sz' : Sizs0) (H' : Hp), Ex (del H z) H' → H' z = some (.dK (kS l2')) → RelR pairR H' l2' sz' → sz'.map (·.1) = tb.map (·.1) → (∀ e ∈ sz', e.2 ∈ six) → tRet (tVar 7) { nx := nx, rt := Q } (drSt d a b t x (some (.ref d'))) H' := fun x l2' sz' H' e' hz' hl' hk' h6' =>
    s_ret (ev_var rfl) fun H2 e2 => q ⟨tb, gr, sz'⟩ H2 (e'.trans e2) (PlA.ex e2 ⟨t, g, z, l, l2', e' _ _ (by rw [del_ne dz]; exact hd), e' _ _ (by rw [del_ne tz]; exact ht), hl.mono fun v c r => lstR_ex e' _ _ (lstR_del hz rdD r), e' _ _ (by rw [del_ne gz]; exact hg), hz', hl'⟩) (gen_of hk n1 n2 n0 n3 hc g1 g2 hk' h6')
  cases c with
  | false => exact done x6 l2 sz H1 (ex_del2 e1) (e1 _ _ hz) (hl2.mono (pairR_ex e1)) hkz h6
  | true =>
    refine s_forL (D := { nx := tRet (tVar 7) { nx := nx, rt := Q }, rt := Q }) (a := a) (xs := ns.map V.str) (ev_var rfl) (SqL.of (e1 _ _ ha)) (fun i σ' H' => ∃ (x : Option V) (l2' : List (Str × V)) (sz' : Sizs0), σ' = drSt d a b t x (some (.ref d')) ∧ Ex (del H z) H' ∧ H' z = some (.dK (kS l2')) ∧ RelR pairR H' l2' sz' ∧ sz'.map (·.1) = tb.map (·.1) ∧ ∀ e ∈ sz', e.2 ∈ six)
      (fun H2 e2 => ⟨x6, l2, sz, rfl, ex_del2 (e1.trans e2), e2 _ _ (e1 _ _ hz), hl2.mono (pairR_ex (e1.trans e2)), hkz, h6⟩) (fun i σ' H' _ p => by
        obtain ⟨_, _, _, _, p, _⟩ := p
        exact SqL.of (p _ _ (by rw [del_ne az]; exact ha))) (fun i v σ' H' hi p => ?_) (fun σ' H' p => ?_)
    · obtain ⟨x, l2', sz', rfl, e', hz', hl', hk', h6'⟩ := p
      rw [List.getElem?_map] at hi
      obtain ⟨n, hn, rfl⟩ := Option.map_eq_some_iff.mp hi
      have hm : n ∈ ns := List.mem_of_getElem? hn
      have hlen : l2'.length ≤ 3 := by
        have h1 := hl'.len
        have h2 := congrArg List.length hk'
        have h3 := congrArg List.length hk
        simp only [List.length_map] at h2 h3
        omega
      obtain ⟨w, hw⟩ := some_of_mem (m := l2') (n := n) (by rw [hl'.keys, hk', hk]; exact hm)
      refine s_dputX (P := SixR) (d := z) (l := l2') (fun H3 e3 => ev_dget (ev_var rfl) ev_c (.inl (e3 _ _ (e' _ _ (by rw [del_ne dz]; exact hd)))) lk_z) (fun _ _ => ev_var rfl) (eq_pickW sixR_st (ev_var rfl) (e' _ _ (by rw [del_ne Dz]; exact hD)) ((elq_lst sixR_st (ear_cons sixR_st (eq_six (by decide)) (ear_cons sixR_st (eq_six (by decide)) (ear_cons sixR_st (eq_six (by decide)) (ear_cons sixR_st (eq_six (by decide)) (ear_cons sixR_st (eq_six (by decide)) (ear_cons sixR_st (eq_six (by decide)) ear_nil)))))) (by decide)).mono fun ys H3 hy => ⟨by rw [hy.1]; decide, by rw [hy.1]; decide, hy.2⟩).w) hz' (by omega) fun v H3 H4 e3 hv e4 => ?_
      obtain ⟨s, hs, hp⟩ := hv
      rw [put_old hw]
      have h4 := e4 _ _ (e3 _ _ hz')
      have bz : del H z z = none := del_same
      refine ⟨some (.str n), _, _, rfl, ((e'.trans e3).trans e4).mut bz, upd_same, ((relR_old (z := n) (hl'.mono (pairR_ex (e3.trans e4))) (pairR_ex e4 _ _ hp)).mono fun v a r => pairR_upd h4 rdT r), by rw [keys_old]; exact hk', fun e he => ?_⟩
      obtain ⟨y, hy, rfl⟩ := List.mem_map.mp he
      by_cases hn : y.1 = n
      · rw [if_pos hn]
        exact hs
      · rw [if_neg hn]
        exact h6' y hy
    · obtain ⟨x, l2', sz', rfl, e', hz', hl', hk', h6'⟩ := p
      exact done x l2' sz' H' e' hz' hl' hk' h6'

end K08

namespace K08
open PySem PySem.Spec PyProof.Rows L2 Evl
/-! ### _law_drawn -/
def sp__law_drawn (K : PySem.W.Frag) : Sp := fun vs H Q _ => ∃ d : Addr, vs = [.ref d, .int 3, .int 5] ∧ H d = some (DiceO d) ∧ WantP H Q
theorem len__law_drawn {K : PySem.W.Frag} : ∀ vs H Q E, sp__law_drawn K vs H Q E → vs.length = 3 := fun vs H Q E ⟨_, e, _⟩ => by rw [e]; rfl
def t__law_drawn (K : PySem.W.Frag) : TS :=
  (tSeq (tAsg (tCB (rSortedS K) (tCons (L2.tSl (rSlL K) (tCl (sp__law_mixed K) (tCons (tVar 0) (tCons (tLst (tCons (tC (.str "r")) (tCons (tC (.str "s")) (tCons (tC (.str "t")) (tCons (tC (.str "u")) (tCons (tC (.str "ab")) (tCons (tC (.str "table")) (tCons (tC (.str "zzzzzzzz")) tNil)))))))) tNil))) tNoPart (tPart (tOp rPlus (tC (.int 1)) (tClD sp__law_roll (tCons (tVar 0) (tCons (tVar 1) tNil)))))) tNil)) (gName 3))
    (tSeq (tPar 4 5 (tCons (L2.tSl (rSlL K) (tLst (tCons (tC (.str "a")) (tCons (tC (.str "b")) (tCons (tC (.str "c")) (tCons (tC (.str "d")) (tCons (tC (.str "x")) (tCons (tC (.str "zz")) tNil))))))) tNoPart (tPart (tOp rPlus (tC (.int 1)) (tClD sp__law_roll (tCons (tVar 0) (tCons (tVar 2) tNil)))))) (tCons tDNewK tNil)))
    (tSeq (tFor (iList K (tVar 3)) (gName 6)
    (sDPut (tVar 5) (tVar 6) (tCB (rSortedS K) (tCons (L2.tSl (rSlL K) (tCl (sp__law_mixed K) (tCons (tVar 0) (tCons (tVar 4) tNil))) tNoPart (tPart (tOp rPlus (tC (.int 1)) (tClD sp__law_roll (tCons (tVar 0) (tCons (tCB rMin2 (tCons (tC (.int 3)) (tCons (tCB (rLenS K) (tCons (tVar 4) tNil)) tNil))) tNil)))))) tNil))))
    (tSeq (tAsg (tCl sp__law_plain (tCons (tVar 5) (tCons (tLst tNil) tNil))) (gName 7))
    (tSeq (sDPut (tVar 7) (tC (.str "groups")) (tLc (iList K (tCl (sp__law_columns K) (tCons (tVar 7) (tCons (tVar 3) tNil)))) (gName 8) (tTest (tOp rEq (tClD sp__law_roll (tCons (tVar 0) (tCons (tC (.int 4)) tNil))) (tC (.int 0)))) (tVar 8) [8]))
    (tSeq (tIfS (tTest (tOp rEq (tClD sp__law_roll (tCons (tVar 0) (tCons (tC (.int 4)) tNil))) (tC (.int 0)))) (tFor (iList K (tVar 3)) (gName 6)
    (sDPut (tDGet (tVar 7) (tC (.str "sizes"))) (tVar 6) (tCl (sp__law_pick K) (tCons (tVar 0) (tCons (tLst (tCons (tTup (tCons (tC (.int 1)) (tCons (tC (.int 1)) tNil))) (tCons (tTup (tCons (tC (.int 1)) (tCons (tC (.int 2)) tNil))) (tCons (tTup (tCons (tC (.int 2)) (tCons (tC (.int 1)) tNil))) (tCons (tTup (tCons (tC (.int 0)) (tCons (tC (.int 1)) tNil))) (tCons (tTup (tCons (tC (.int 3)) (tCons (tC (.int 2)) tNil))) (tCons (tTup (tCons (tC (.int 1)) (tCons (tC (.int 3)) tNil))) tNil))))))) tNil))))) tNext)
    (tRet (tVar 7))))))))
theorem pure__law_drawn {K : PySem.W.Frag} {vs : List V} {H : Hp} {Q : VK} {E : XK} (h : sp__law_drawn K vs H Q E) : t__law_drawn K { nx := fun _ H' => Q .non H', rt := Q } (start ["_law_dice_here", "_law_many", "_law_width", "_law_names_here", "_law_pool", "_law_tables", "_law_name", "_law_found", "_law_column"] vs) H := by
  obtain ⟨d, rfl, hD, q⟩ := h
  refine q_asgLQ (elq_draw (cs := nsC) (ev_var rfl) hD (ew_new (el_consT (l := nsC) (by decide))) (fun H1 e1 => eq_roll (ev_var rfl) (ev_var rfl) (e1 _ _ hD) (by decide) (by decide)) nsC_nd (by decide) (by decide)) fun a ys H1 ha e1 hx hP => ?_
  obtain ⟨ns, rfl, n1, n2, n3, n4⟩ := hP
  have n5 : ns.length ≤ 3 := by omega
  refine q_parLD (elq_cut (EvL.lq (el_consT (l := csC) (by decide))) fun H2 e2 => eq_roll (ev_var rfl) (ev_var rfl) (e2 _ _ (e1 _ _ hD)) (by decide) (by decide)) fun b zs t H2 H3 hb ht htb e2 hzs hP htn eH3 => ?_
  obtain ⟨ys, k, _, rfl, rfl, k1, k2⟩ := hP
  rw [← List.map_take] at hzs
  have p1 : (csC.take k).Nodup := csC_nd.sublist (List.take_sublist k csC)
  have p2 : ∀ z ∈ csC.take k, z ∈ csC := fun z hz => List.mem_of_mem_take hz
  have p3 : 1 ≤ (csC.take k).length := by rw [List.length_take]; have : csC.length = 6 := rfl; omega
  have p4 : (csC.take k).length < 64 := by rw [List.length_take]; have : csC.length = 6 := rfl; omega
  generalize csC.take k = cs at *
  have ta : t ≠ a := fun e => by subst e; rw [hx] at ht; cases ht
  have ht0 : H t = none := fresh_back e1 ht
  have e02 := e1.trans e2
  -- B: what stands beside the tables
  have eB : Ex H H2 := e02
  have haB := e2 _ _ hx
  have hDB := e02 _ _ hD
  refine q_forLn (a := a) (xs := ns.map V.str) (ev_var rfl) (SqL.of (by rw [eH3, upd_ne (Ne.symm ta)]; exact haB)) (fun i σ' H' => ∃ (x : Option V) (l : List (Str × V)) (tb : Tabs0), σ' = drSt d a b t x none ∧ Ex H2 H' ∧ H' t = some (.dK (kS l)) ∧ RelR lstR H' l tb ∧ tb.map (·.1) = ns.take i ∧ ∀ e ∈ tb, DrawC e.2)
    (fun H4 e4 => ⟨none, [], [], rfl, by rw [eH3] at e4; exact (Ex.new htn).trans e4, e4 _ _ (by rw [eH3]; exact upd_same), .nil, by rw [List.take_zero]; rfl, fun e he => nomatch he⟩) (fun i σ' H' _ p => by
      obtain ⟨_, _, _, _, p, _⟩ := p
      exact SqL.of (p _ _ haB)) (fun i v σ' H' hi p => ?_) (fun σ' H' p => ?_)
  · obtain ⟨x, l, tb, rfl, e', h1, h2, h3, h4⟩ := p
    rw [List.getElem?_map] at hi
    obtain ⟨n, hn, rfl⟩ := Option.map_eq_some_iff.mp hi
    have hm : n ∉ tb.map (·.1) := by
      rw [h3]
      intro hc
      obtain ⟨hlt, he⟩ := List.getElem?_eq_some_iff.mp hn
      have hs : ns = ns.take i ++ n :: ns.drop (i + 1) := by rw [← he, List.getElem_cons_drop, List.take_append_drop]
      have hd := asc_nodup n1
      rw [hs] at hd
      exact (List.nodup_append.mp hd).2.2 n hc n List.mem_cons_self rfl
    have hno : l.lookup n = none := lookup_no.mpr (by rw [h2.keys]; exact hm)
    have hlen : l.length ≤ 3 := by
      have e1 := h2.len
      have e2 := congrArg List.length h3
      rw [List.length_map, List.length_take] at e2
      omega
    have hmin : ∀ H5, Ex H' H5 → EvQ (tClD sp__law_roll (tCons (tVar 0) (tCons (tCB rMin2 (tCons (tC (.int 3)) (tCons (tCB (rLenS K) (tCons (tVar 4) tNil)) tNil))) tNil))) (drSt d a b t (some (.str n)) none) H5 (IntTo (if (cs.length : Int) < 3 then (cs.length : Int) else 3)) := fun H5 e5 => by
      have hl := ev_min2 (σ := drSt d a b t (some (.str n)) none) (H := H5) (ev_c (v := .int 3)) (ev_len (K := K) (ev_var (i := 4) rfl) (SqL.of (e5 _ _ (e' _ _ hzs))))
      rw [List.length_map] at hl
      refine eq_roll (ev_var rfl) hl (e5 _ _ (e' _ _ hDB)) ?_ ?_ <;> split <;> omega
    refine s_dputQ (P := fun v H5 => ∃ c, lstR H5 v c ∧ DrawC c) (d := t) (l := l) (fun _ _ => ev_var rfl) (fun _ _ => ev_var rfl) (fun H5 e5 Q' q' => elq_draw (cs := cs) (ev_var rfl) (e' _ _ hDB) (ew_old (ev_var rfl) (e' _ _ hzs)) hmin p1 p3 p4 H5 e5 Q' fun p ys H6 hp e6 hx6 hP6 => ?_) h1 hno (by omega) fun v H5 H6 e5 hv e6 => ?_
    · obtain ⟨ms, rfl, m1, m2, m3, m4⟩ := hP6
      refine q' _ H6 e6 ⟨ms, ⟨p, rfl, hx6⟩, m1, fun z hz => p2 z (m2 z hz), m3, ?_⟩
      split at m4 <;> omega
    · obtain ⟨c, hc, hdc⟩ := hv
      have h6 := e6 _ _ (e5 _ _ h1)
      have e56 := e5.trans e6
      refine ⟨_, _, tb ++ [(n, c)], rfl, (e'.trans e56).mut htn, upd_same, (((h2.mono (lstR_ex e56)).mono fun v a r => lstR_upd h6 rdD r).snoc (lstR_upd h6 rdD (lstR_ex e6 _ _ hc))), ?_, fun e he => ?_⟩
      · rw [List.map_append, h3, List.take_add_one, hn]
        rfl
      · rcases List.mem_append.mp he with he | he
        · exact h4 e he
        · rw [List.mem_singleton.mp he]
          exact hdc
  · obtain ⟨x, l, tb, rfl, e', h1, h2, h3, h4⟩ := p
    rw [List.length_map, List.take_length] at h3
    have hnd : (tb.map (·.1)).Nodup := by rw [h3]; exact asc_nodup n1
    have htl : tb.length = ns.length := by rw [← h3, List.length_map]
    refine q_asgQ (P := fun v H6 => ∃ d' g z l2, v = .ref d' ∧ H' d' = none ∧ H' z = none ∧ d' ≠ z ∧ H6 d' = some (.dK (kS [("tables", .ref t), ("groups", .ref g), ("sizes", .ref z)])) ∧ H6 z = some (.dK (kS l2)) ∧ RelR pairR H6 l2 (ones tb) ∧ H6 g = some (.lst [])) (fun H5 e5 Q' q' => ?_) fun v H6 e6 hv => ?_
    · show tVar 5 (drSt d a b t x none) H5 fun u H6 => tLst tNil (drSt d a b t x none) H6 fun y H7 => sp__law_plain [u, y] H7 Q' E0
      refine ev_var (i := 5) rfl H5 e5 _ fun H6 e6 => ?_
      show tLst tNil (drSt d a b t x none) H6 fun y H7 => sp__law_plain [.ref t, y] H7 Q' E0
      refine (el_lst (vs := []) ea_nil (by decide)) H6 (e5.trans e6) _ fun g H7 hg e7 hx7 => ?_
      have e57 := e6.trans e7
      exact ⟨t, g, l, tb, [], rfl, e57 _ _ (e5 _ _ h1), h2.mono (lstR_ex (e5.trans e57)), hnd, by omega, hx7, fun d' z l2 H8 hd' hz' hne e8 hp hz2 hr2 => q' (.ref d') H8 (e57.trans e8) ⟨d', g, z, l2, rfl, fresh_back (e5.trans e57) hd', fresh_back (e5.trans e57) hz', hne, hp, hz2, hr2, e8 _ _ hx7⟩⟩
    · obtain ⟨d', g, z, l2, rfl, nd', nz', dz, f1, f2, f3, f0⟩ := hv
      have ht6 := e6 _ _ h1
      have hin : ∀ n ∈ ns, (tb.lookup n).isSome = true := fun n hn => by rw [isSome_mem, h3]; exact decide_eq_true hn
      have hcl : (colsL tb ns).length < 3000 := by
        have : (colsL tb ns).length ≤ 3 * ns.length := flatK_le fun n hn => by
          have h := hin n hn
          obtain ⟨c, hc⟩ := Option.isSome_iff_exists.mp h
          rw [hc]
          exact (h4 _ (lookup_mem hc)).hi
        omega
      -- the groups are drawn: the plain question holds no groups yet, but a list
      have tg : t ≠ d' := fun e => by subst e; rw [h1] at nd'; cases nd'
      have tz : t ≠ z := fun e => by subst e; rw [h1] at nz'; cases nz'
      have hD' := e' _ _ hDB
      have hD6 := e6 _ _ hD'
      have ha6 := e6 _ _ (e' _ _ haB)
      have hpl : PlA H6 d' ⟨tb, [], ones tb⟩ := ⟨t, g, z, l, l2, f1, ht6, h2.mono (lstR_ex e6), f0, f2, f3⟩
      refine q_dputX (P := fun v H7 => ∃ (g' : Addr) (gr : List Str), v = .ref g' ∧ g' ≠ d' ∧ H7 g' = some (.lst (gr.map V.str)) ∧ gr.Sublist (setSort (colsL tb ns))) (fun _ _ => ev_var rfl) (fun _ _ => ev_c) (fun H7 e7 Q' q' => elq_some (src_newL (el_columns (ev_var rfl) (ev_var rfl) hpl (SqL.of ha6) hin hcl)) ?_ (fun _ => rfl) (fun x H8 e8 => etq_roll (H := H6) (eq_rollC (ev_var rfl) hD6 (by decide) (by decide)) H8 e8) (fun _ => rfl) H7 e7 Q' fun p ys H8 hp e8 hx8 hs => ?_) f1 (show (3 : Nat) < 100000 by decide) fun v H7 H8 e7 hv e8 => ?_
      · rw [List.length_map]
        exact Nat.le_trans (setSort_len _) (by show (colsL tb ns).length ≤ 40000; omega)
      · obtain ⟨gr, hs', rfl⟩ := List.sublist_map_iff.mp hs
        exact q' _ H8 e8 ⟨p, gr, rfl, (fun e => by subst e; rw [e7 _ _ f1] at hp; cases hp), hx8, hs'⟩
      · obtain ⟨g', gr, rfl, gd, hg', hs⟩ := hv
        rw [put_g]
        have e68 := e7.trans e8
        have h8 := e68 _ _ f1
        have eH' : Ex H H' := eB.trans e'
        have e08 : Ex H H8 := (eH'.trans e6).trans e68
        have dd : d ≠ d' := ne_of_none hD' nd'
        have ad : a ≠ d' := ne_of_none (e' _ _ haB) nd'
        refine dr_sizes (g := g') (by rw [upd_ne dd]; exact e68 _ _ hD6) (by rw [upd_ne ad]; exact e68 _ _ ha6) upd_same (by rw [upd_ne tg]; exact e68 _ _ ht6) ((h2.mono (lstR_ex (e6.trans e68))).mono fun v a r => lstR_upd h8 rdD r) (by rw [upd_ne gd]; exact e8 _ _ hg') (by rw [upd_ne (Ne.symm dz)]; exact e68 _ _ f2) ((f3.mono (pairR_ex e68)).mono fun v a r => pairR_upd h8 rdT r) dz tz h3 n1 n2 n3 n5 h4 ((asc_setSort _).sublist hs) (fun y hy => ?_) (by unfold ones; rw [List.map_map]; rfl) (fun e he => ?_) fun p H9 e9 hp hgp => q d' p H9 ((ex_into (e08.mut (fresh_back eH' nd')) (fresh_back eH' nz')).trans e9) hp hgp
        · have := mem_setSort.mp (hs.subset hy)
          unfold colsL at this
          obtain ⟨n, hn, hyn⟩ := List.mem_flatMap.mp this
          obtain ⟨c, hc⟩ := Option.isSome_iff_exists.mp (hin n hn)
          rw [hc] at hyn
          exact (h4 _ (lookup_mem hc)).sub y hyn
        · unfold ones at he
          obtain ⟨x, _, rfl⟩ := List.mem_map.mp he
          exact List.mem_cons_self
theorem sc__law_drawn : FnScope ["_law_dice_here", "_law_many", "_law_width", "_law_names_here", "_law_pool", "_law_tables", "_law_name", "_law_found", "_law_column"] ["_law_dice_here", "_law_many", "_law_width"] (defScope s__law_drawn) := ⟨rfl, rfl, rfl, by decide +kernel, rfl, by decide +kernel, by decide +kernel⟩
theorem d__law_drawn {P : Program} {w : World} {K : PySem.W.Frag} {mg : Str → Option Value} {base : Heap} (T : Txt K mg) {f : Addr} {cdv : Value} {A : Around} {outer : List Env} {s : Shared} {H : Hp} {E : XK} (hr : Room 2 (A.deeper (envOfC "_law_drawn" (defScope s__law_drawn) s.heap.objs.size f cdv))) :
    PSs (cxOf CX0 P w K mg base ["_law_dice_here", "_law_many", "_law_width", "_law_names_here", "_law_pool", "_law_tables", "_law_name", "_law_found", "_law_column"] "_law_drawn" (defScope s__law_drawn) f cdv A outer s H E).nox (defBody s__law_drawn) (t__law_drawn K) := by
  have hu := hu_of hr
  exact (pss_cons (ps_asg (pe_callB cr_sortedS (by rfl) T.b_sorted (by decide +kernel) (pa_cons (pe_slice sl_list (pe_cl (cl__law_mixed T) hr (pa_cons (pv 0) (pa_cons (pe_lst (pa_cons pe_str (pa_cons pe_str (pa_cons pe_str (pa_cons pe_str (pa_cons pe_str (pa_cons pe_str (pa_cons pe_str pa_nil)))))))) pa_nil))) po_none (po_some (pe_op op_add pe_int (pe_clD (cl__law_roll T) hr (pa_cons (pv 0) (pa_cons (pv 1) pa_nil)))))) pa_nil)) (pg_name (i := 3) sc__law_drawn.nd rfl (Or.inl rfl)))
      (pss_cons (ps_par (i := 4) (j := 5) (by rfl) sc__law_drawn.nd rfl rfl (by decide) rfl rfl (pa_cons (pe_slice sl_list (pe_lst (pa_cons pe_str (pa_cons pe_str (pa_cons pe_str (pa_cons pe_str (pa_cons pe_str (pa_cons pe_str pa_nil))))))) po_none (po_some (pe_op op_add pe_int (pe_clD (cl__law_roll T) hr (pa_cons (pv 0) (pa_cons (pv 2) pa_nil)))))) (pa_cons pe_dnewK pa_nil)) (by rfl))
      (pss_cons (ps_for PassesOwn.never rfl (pi_list (pv 3)) (pg_name (i := 6) sc__law_drawn.nd rfl (Or.inl rfl))
      (pss_one (ps_dput hu (pv 5) (pv 6) (pe_callB cr_sortedS (by rfl) T.b_sorted (by decide +kernel) (pa_cons (pe_slice sl_list (pe_cl (cl__law_mixed T) hr (pa_cons (pv 0) (pa_cons (pv 4) pa_nil))) po_none (po_some (pe_op op_add pe_int (pe_clD (cl__law_roll T) hr (pa_cons (pv 0) (pa_cons (pe_callB (call_min2 rfl) (by rfl) T.b_min (by decide +kernel) (pa_cons pe_int (pa_cons (pe_callB call_len_seq (by rfl) T.b_len (by decide +kernel) (pa_cons (pv 4) pa_nil)) pa_nil))) pa_nil)))))) pa_nil)) rfl)))
      (pss_cons (ps_asg (pe_cl (cl__law_plain T) hr (pa_cons (pv 5) (pa_cons (pe_lst pa_nil) pa_nil))) (pg_name (i := 7) sc__law_drawn.nd rfl (Or.inl rfl)))
      (pss_cons (ps_dput hu (pv 7) pe_str (pe_lc (own := [("_law_column", 8)]) rfl sc__law_drawn.nd (pi_list (pe_cl (cl__law_columns T) hr (pa_cons (pv 7) (pa_cons (pv 3) pa_nil)))) (blkOk_by (own := [("_law_column", 8)]) (N := ["_law_dice_here", "_law_many", "_law_width", "_law_names_here", "_law_pool", "_law_tables", "_law_name", "_law_found", "_law_column"]) (sc := defScope s__law_drawn) (by decide +kernel)) (fun _ _ _ _ _ => (pg_name (i := 8) sc__law_drawn.nd rfl (Or.inl rfl))) (fun _ _ _ _ _ => (pts_one (pt_cmpR op_eq (pe_clD (cl__law_roll T) hr (pa_cons (pv 0) (pa_cons pe_int pa_nil))) pe_int (nomark _)))) (fun _ _ _ _ _ => (pv 8))) rfl)
      (pss_cons (ps_if (pt_cmpR op_eq (pe_clD (cl__law_roll T) hr (pa_cons (pv 0) (pa_cons pe_int pa_nil))) pe_int (nomark _)) (pss_one (ps_for PassesOwn.never rfl (pi_list (pv 3)) (pg_name (i := 6) sc__law_drawn.nd rfl (Or.inl rfl))
      (pss_one (ps_dput hu (pe_dget hu (pv 7) pe_str (fun _ _ => rfl)) (pv 6) (pe_cl (cl__law_pick T) hr (pa_cons (pv 0) (pa_cons (pe_lst (pa_cons (pe_tup (pa_cons pe_int (pa_cons pe_int pa_nil))) (pa_cons (pe_tup (pa_cons pe_int (pa_cons pe_int pa_nil))) (pa_cons (pe_tup (pa_cons pe_int (pa_cons pe_int pa_nil))) (pa_cons (pe_tup (pa_cons pe_int (pa_cons pe_int pa_nil))) (pa_cons (pe_tup (pa_cons pe_int (pa_cons pe_int pa_nil))) (pa_cons (pe_tup (pa_cons pe_int (pa_cons pe_int pa_nil))) pa_nil))))))) pa_nil))) rfl)))) pss_nil)
      (pss_one (ps_ret (pv 7)))))))))
theorem ok__law_drawn {P : Program} {w : World} {K : PySem.W.Frag} {mg : Str → Option Value} {base : Heap} (T : Txt K mg) : FnOk P w K mg base CX0 3 T.l_drawn.f T.l_drawn.fd ["_law_dice_here", "_law_many", "_law_width"] (sp__law_drawn K) :=
  ok0 T.l_drawn.F sc__law_drawn len__law_drawn fun cdv A outer s H vs Q E hr h => ⟨t__law_drawn K, d__law_drawn T hr, pure__law_drawn h⟩
theorem cl__law_drawn {P : Program} {w : World} {K : PySem.W.Frag} {mg : Str → Option Value} {base : Heap} (T : Txt K mg) : Cl P w K mg base 3 "_law_drawn" (sp__law_drawn K) := cl_of T.l_drawn (ok__law_drawn T) fun _ _ _ _ _ _ us hl => match us, hl with | [_, _, _], _ => rfl

end K08

namespace K08
open PySem PySem.Spec PyProof.Rows L2 Evl
/-! ### _law_any -/
def sp__law_any (K : PySem.W.Frag) : Sp := fun vs H Q _ => ∃ d : Addr, vs = [.ref d, .int 3, .int 5] ∧ H d = some (DiceO d) ∧ WantP H Q
theorem len__law_any {K : PySem.W.Frag} : ∀ vs H Q E, sp__law_any K vs H Q E → vs.length = 3 := fun vs H Q E ⟨_, e, _⟩ => by rw [e]; rfl
def t__law_any (K : PySem.W.Frag) : TS :=
  (tRet (tIf (tTest (tOp rEq (tClD sp__law_roll (tCons (tVar 0) (tCons (tC (.int 3)) tNil))) (tC (.int 0)))) (tCl sp__law_written (tCons (tClD sp__law_roll (tCons (tVar 0) (tCons (tC (.int 8)) tNil))) tNil)) (tCl (sp__law_drawn K) (tCons (tVar 0) (tCons (tVar 1) (tCons (tVar 2) tNil))))))
theorem pure__law_any {K : PySem.W.Frag} {vs : List V} {H : Hp} {Q : VK} {E : XK} (h : sp__law_any K vs H Q E) : t__law_any K { nx := fun _ H' => Q .non H', rt := Q } (start ["_law_dice_here", "_law_many", "_law_width"] vs) H := by
  obtain ⟨d, rfl, hD, q⟩ := h
  refine etq_roll (eq_rollC (ev_var rfl) hD (by decide) (by decide)) H (Ex.refl H) _ fun c H1 e1 => ?_
  have hD1 := e1 _ _ hD
  cases c with
  | true =>
    show tClD sp__law_roll (tCons (tVar 0) (tCons (tC (.int 8)) tNil)) _ H1 fun x H2 => sp__law_written [x] H2 Q E0
    refine eq_rollC (n := 8) (ev_var rfl) hD1 (by decide) (by decide) H1 (Ex.refl H1) _ fun v H2 e2 hv => ?_
    obtain ⟨r, rfl, _⟩ := hv
    exact ⟨r, rfl, q.go (e1.trans e2)⟩
  | false =>
    show (tCons (tVar 0) (tCons (tVar 1) (tCons (tVar 2) tNil))) _ H1 fun vs H2 => sp__law_drawn K vs H2 Q E0
    exact ea_cons (ev_var rfl) (ea_cons (ev_var rfl) (ea_cons (ev_var rfl) ea_nil)) H1 (Ex.refl H1) _ fun H2 e2 => ⟨d, rfl, e2 _ _ hD1, q.go (e1.trans e2)⟩
theorem sc__law_any : FnScope ["_law_dice_here", "_law_many", "_law_width"] ["_law_dice_here", "_law_many", "_law_width"] (defScope s__law_any) := ⟨rfl, rfl, rfl, by decide +kernel, rfl, by decide +kernel, by decide +kernel⟩
theorem d__law_any {P : Program} {w : World} {K : PySem.W.Frag} {mg : Str → Option Value} {base : Heap} (T : Txt K mg) {f : Addr} {cdv : Value} {A : Around} {outer : List Env} {s : Shared} {H : Hp} {E : XK} (hr : Room 3 (A.deeper (envOfC "_law_any" (defScope s__law_any) s.heap.objs.size f cdv))) :
    PSs (cxOf CX0 P w K mg base ["_law_dice_here", "_law_many", "_law_width"] "_law_any" (defScope s__law_any) f cdv A outer s H E).nox (defBody s__law_any) (t__law_any K) := by
  have hu := hu_of hr
  exact (pss_one (ps_ret (pe_ifExp (pt_cmpR op_eq (pe_clD (cl__law_roll T) hr (pa_cons (pv 0) (pa_cons pe_int pa_nil))) pe_int (nomark _)) (pe_cl (cl__law_written T) hr (pa_cons (pe_clD (cl__law_roll T) hr (pa_cons (pv 0) (pa_cons pe_int pa_nil))) pa_nil)) (pe_cl (cl__law_drawn T) hr (pa_cons (pv 0) (pa_cons (pv 1) (pa_cons (pv 2) pa_nil)))))))
theorem ok__law_any {P : Program} {w : World} {K : PySem.W.Frag} {mg : Str → Option Value} {base : Heap} (T : Txt K mg) : FnOk P w K mg base CX0 4 T.l_any.f T.l_any.fd ["_law_dice_here", "_law_many", "_law_width"] (sp__law_any K) :=
  ok0 T.l_any.F sc__law_any len__law_any fun cdv A outer s H vs Q E hr h => ⟨t__law_any K, d__law_any T hr, pure__law_any h⟩
theorem cl__law_any {P : Program} {w : World} {K : PySem.W.Frag} {mg : Str → Option Value} {base : Heap} (T : Txt K mg) : Cl P w K mg base 4 "_law_any" (sp__law_any K) := cl_of T.l_any (ok__law_any T) fun _ _ _ _ _ _ us hl => match us, hl with | [_, _, _], _ => rfl

end K08

namespace K08
open PySem PySem.Spec PyProof.Rows L2 Evl
/-! ### _law_asked -/
open LamX PySem.W in
def lamX (i : Nat) : Expr := match (defBody s__law_asked).getD (i + 1) (.Pass ⟨0, 0, 0, 0⟩) with
  | .Assign _ (.List (e :: _) _) _ => e
  | .Expr (.Call _ (e :: _) _ _) _ => e
  | _ => .Name "" ⟨0, 0, 0, 0⟩
def lamP (i : Nat) : Arguments := match lamX i with
  | .Lambda a _ _ _ => a
  | _ => defArgs s__law_asked
def lamB (i : Nat) : Expr := match lamX i with
  | .Lambda _ b _ _ => b
  | e => e
def lamSc (i : Nat) : Scope := match lamX i with
  | .Lambda _ _ s _ => s
  | _ => defScope s__law_asked
abbrev lamF : LamF := ⟨lamP, lamB, lamSc⟩
abbrev lamQ : Str := "_law_asked" ++ ".<locals>." ++ "<lambda>"
def tabsT {K : PySem.W.Frag} {mg : Str → Option Value} (T : Txt K mg) : List (Addr × Str) := [(T.l_asked.tab, lamQ)]
def argsT (K : PySem.W.Frag) : Nat → Nat → TA
  | _, 0 => tNil
  | k, n + 1 => tCons (tOp (rIxL K) (tVar 2) (tC (.int (k : Nat)))) (argsT K (k + 1) n)
def sp_fl {K : PySem.W.Frag} {mg : Str → Option Value} (T : Txt K mg) : Sp := fun vs H Q E => ∃ ws rest, vs = ws ++ rest ∧ ws.length = ["cls"].length ∧ rest.length ≤ sizeLine ∧ ∀ p, H p = Option.none → sp_Question_from_lines T (ws ++ [V.ref p]) (upd H p (.tup rest)) Q E
def lamT {K : PySem.W.Frag} {mg : Str → Option Value} (T : Txt K mg) (E : XK) (i : Nat) : TE := ClX.tCMeth T.Question.C (sp_fl T) E (tC (.ref T.Question.C)) (argsT K 0 i)
theorem lamS_ok : ∀ i, i < 10 → LamX.LamS (defScope s__law_asked) (lamSc i)
  | 0, _ => LamX.lamS_by (by decide +kernel)
  | 1, _ => LamX.lamS_by (by decide +kernel)
  | 2, _ => LamX.lamS_by (by decide +kernel)
  | 3, _ => LamX.lamS_by (by decide +kernel)
  | 4, _ => LamX.lamS_by (by decide +kernel)
  | 5, _ => LamX.lamS_by (by decide +kernel)
  | 6, _ => LamX.lamS_by (by decide +kernel)
  | 7, _ => LamX.lamS_by (by decide +kernel)
  | 8, _ => LamX.lamS_by (by decide +kernel)
  | 9, _ => LamX.lamS_by (by decide +kernel)
  | _ + 10, h => absurd h (by omega)
theorem lam_bind : ∀ i, i < 10 → ∀ (cl : List (Str × Addr)) (pm cv ctv : Value), bindArgs (PySem.W.kla_fn "<lambda>" lamQ (lamP i) (lamB i) (lamSc i) cl pm cv ctv) ⟨[], []⟩ = pure []
  | 0, _ => fun _ _ _ _ => rfl
  | 1, _ => fun _ _ _ _ => rfl
  | 2, _ => fun _ _ _ _ => rfl
  | 3, _ => fun _ _ _ _ => rfl
  | 4, _ => fun _ _ _ _ => rfl
  | 5, _ => fun _ _ _ _ => rfl
  | 6, _ => fun _ _ _ _ => rfl
  | 7, _ => fun _ _ _ _ => rfl
  | 8, _ => fun _ _ _ _ => rfl
  | 9, _ => fun _ _ _ _ => rfl
  | _ + 10, h => absurd h (by omega)
theorem lam_body {P : Program} {w : World} {K : PySem.W.Frag} {mg : Str → Option Value} {base : Heap} (T : Txt K mg) {f0 : Addr} {A0 : Around} {outer0 : List Env} {s0 : Shared} {H0 : Hp} {E : XK} : ∀ i, i < 10 → ∀ (f c' : Addr) (A : Around) (outer : List Env) (s : Shared) (H : Hp), Room 9 (A.deeper (LamX.lamEnv (cxOf (L2.CX P w) P w K mg base ["_law_lines_here", "_law_n", "_law_a", "_law_some"] "_law_asked" (defScope s__law_asked) f0 (.ref T.l_asked.c) A0 outer0 s0 H0 E) (lamSc i) s.heap.objs.size f c')) →
    PE (LamX.lamCx (cxOf (L2.CX P w) P w K mg base ["_law_lines_here", "_law_n", "_law_a", "_law_some"] "_law_asked" (defScope s__law_asked) f0 (.ref T.l_asked.c) A0 outer0 s0 H0 E) A outer s H E (lamSc i) f c') (lamB i) (lamT T E i)
  | 0, _ => fun f c' A outer s H hr => pe_cmeth0 (pe_glob rfl T.Question.g rfl rfl) T.Question.rd T.Question_from_lines.c (r_Question_from_lines T) hr (passes_call (takes_of rfl rfl rfl rfl) fun _ _ _ _ h => h)
  | 1, _ => fun f c' A outer s H hr => ClX.pe_cmeth (pe_glob rfl T.Question.g rfl rfl) T.Question.rd T.Question_from_lines.c (r_Question_from_lines T) hr (passes_call (takes_of rfl rfl rfl rfl) fun _ _ _ _ h => h) (pa_cons (pe_ix ix_list (pv 2) pe_int (fun _ _ => rfl)) pa_nil)
  | 2, _ => fun f c' A outer s H hr => ClX.pe_cmeth (pe_glob rfl T.Question.g rfl rfl) T.Question.rd T.Question_from_lines.c (r_Question_from_lines T) hr (passes_call (takes_of rfl rfl rfl rfl) fun _ _ _ _ h => h) (pa_cons (pe_ix ix_list (pv 2) pe_int (fun _ _ => rfl)) (pa_cons (pe_ix ix_list (pv 2) pe_int (fun _ _ => rfl)) pa_nil))
  | 3, _ => fun f c' A outer s H hr => ClX.pe_cmeth (pe_glob rfl T.Question.g rfl rfl) T.Question.rd T.Question_from_lines.c (r_Question_from_lines T) hr (passes_call (takes_of rfl rfl rfl rfl) fun _ _ _ _ h => h) (pa_cons (pe_ix ix_list (pv 2) pe_int (fun _ _ => rfl)) (pa_cons (pe_ix ix_list (pv 2) pe_int (fun _ _ => rfl)) (pa_cons (pe_ix ix_list (pv 2) pe_int (fun _ _ => rfl)) pa_nil)))
  | 4, _ => fun f c' A outer s H hr => ClX.pe_cmeth (pe_glob rfl T.Question.g rfl rfl) T.Question.rd T.Question_from_lines.c (r_Question_from_lines T) hr (passes_call (takes_of rfl rfl rfl rfl) fun _ _ _ _ h => h) (pa_cons (pe_ix ix_list (pv 2) pe_int (fun _ _ => rfl)) (pa_cons (pe_ix ix_list (pv 2) pe_int (fun _ _ => rfl)) (pa_cons (pe_ix ix_list (pv 2) pe_int (fun _ _ => rfl)) (pa_cons (pe_ix ix_list (pv 2) pe_int (fun _ _ => rfl)) pa_nil))))
  | 5, _ => fun f c' A outer s H hr => ClX.pe_cmeth (pe_glob rfl T.Question.g rfl rfl) T.Question.rd T.Question_from_lines.c (r_Question_from_lines T) hr (passes_call (takes_of rfl rfl rfl rfl) fun _ _ _ _ h => h) (pa_cons (pe_ix ix_list (pv 2) pe_int (fun _ _ => rfl)) (pa_cons (pe_ix ix_list (pv 2) pe_int (fun _ _ => rfl)) (pa_cons (pe_ix ix_list (pv 2) pe_int (fun _ _ => rfl)) (pa_cons (pe_ix ix_list (pv 2) pe_int (fun _ _ => rfl)) (pa_cons (pe_ix ix_list (pv 2) pe_int (fun _ _ => rfl)) pa_nil)))))
  | 6, _ => fun f c' A outer s H hr => ClX.pe_cmeth (pe_glob rfl T.Question.g rfl rfl) T.Question.rd T.Question_from_lines.c (r_Question_from_lines T) hr (passes_call (takes_of rfl rfl rfl rfl) fun _ _ _ _ h => h) (pa_cons (pe_ix ix_list (pv 2) pe_int (fun _ _ => rfl)) (pa_cons (pe_ix ix_list (pv 2) pe_int (fun _ _ => rfl)) (pa_cons (pe_ix ix_list (pv 2) pe_int (fun _ _ => rfl)) (pa_cons (pe_ix ix_list (pv 2) pe_int (fun _ _ => rfl)) (pa_cons (pe_ix ix_list (pv 2) pe_int (fun _ _ => rfl)) (pa_cons (pe_ix ix_list (pv 2) pe_int (fun _ _ => rfl)) pa_nil))))))
  | 7, _ => fun f c' A outer s H hr => ClX.pe_cmeth (pe_glob rfl T.Question.g rfl rfl) T.Question.rd T.Question_from_lines.c (r_Question_from_lines T) hr (passes_call (takes_of rfl rfl rfl rfl) fun _ _ _ _ h => h) (pa_cons (pe_ix ix_list (pv 2) pe_int (fun _ _ => rfl)) (pa_cons (pe_ix ix_list (pv 2) pe_int (fun _ _ => rfl)) (pa_cons (pe_ix ix_list (pv 2) pe_int (fun _ _ => rfl)) (pa_cons (pe_ix ix_list (pv 2) pe_int (fun _ _ => rfl)) (pa_cons (pe_ix ix_list (pv 2) pe_int (fun _ _ => rfl)) (pa_cons (pe_ix ix_list (pv 2) pe_int (fun _ _ => rfl)) (pa_cons (pe_ix ix_list (pv 2) pe_int (fun _ _ => rfl)) pa_nil)))))))
  | 8, _ => fun f c' A outer s H hr => ClX.pe_cmeth (pe_glob rfl T.Question.g rfl rfl) T.Question.rd T.Question_from_lines.c (r_Question_from_lines T) hr (passes_call (takes_of rfl rfl rfl rfl) fun _ _ _ _ h => h) (pa_cons (pe_ix ix_list (pv 2) pe_int (fun _ _ => rfl)) (pa_cons (pe_ix ix_list (pv 2) pe_int (fun _ _ => rfl)) (pa_cons (pe_ix ix_list (pv 2) pe_int (fun _ _ => rfl)) (pa_cons (pe_ix ix_list (pv 2) pe_int (fun _ _ => rfl)) (pa_cons (pe_ix ix_list (pv 2) pe_int (fun _ _ => rfl)) (pa_cons (pe_ix ix_list (pv 2) pe_int (fun _ _ => rfl)) (pa_cons (pe_ix ix_list (pv 2) pe_int (fun _ _ => rfl)) (pa_cons (pe_ix ix_list (pv 2) pe_int (fun _ _ => rfl)) pa_nil))))))))
  | 9, _ => fun f c' A outer s H hr => ClX.pe_cmeth (pe_glob rfl T.Question.g rfl rfl) T.Question.rd T.Question_from_lines.c (r_Question_from_lines T) hr (passes_call (takes_of rfl rfl rfl rfl) fun _ _ _ _ h => h) (pa_cons (pe_ix ix_list (pv 2) pe_int (fun _ _ => rfl)) (pa_cons (pe_ix ix_list (pv 2) pe_int (fun _ _ => rfl)) (pa_cons (pe_ix ix_list (pv 2) pe_int (fun _ _ => rfl)) (pa_cons (pe_ix ix_list (pv 2) pe_int (fun _ _ => rfl)) (pa_cons (pe_ix ix_list (pv 2) pe_int (fun _ _ => rfl)) (pa_cons (pe_ix ix_list (pv 2) pe_int (fun _ _ => rfl)) (pa_cons (pe_ix ix_list (pv 2) pe_int (fun _ _ => rfl)) (pa_cons (pe_ix ix_list (pv 2) pe_int (fun _ _ => rfl)) (pa_cons (pe_ix ix_list (pv 2) pe_int (fun _ _ => rfl)) pa_nil)))))))))
  | _ + 10, h => absurd h (by omega)
def t__law_asked (K : PySem.W.Frag) {mg : Str → Option Value} (T : Txt K mg) (E : XK) (cells : List (Str × Addr)) : TS :=
  (tSeq (tAsg (tTup (tCons (tCB (rLenS K) (tCons (tVar 0) tNil)) (tCons (tOp rCat (tCB (rListS K) (tCons (tVar 0) tNil)) (tOp rRep (tLst (tCons (tC (.str "")) tNil)) (tC (.int 9)))) tNil))) (gTup K 2 (gCons (gName 1) (gCons (gName 2) gNil))))
    (tSeq (tAsg (tLst (tCons (tLam0 (tabsT T) lamQ (LamObj lamQ (lamP 0) (lamB 0) (lamSc 0) (cloFrom cells (lamSc 0).names []))) tNil)) (gName 3))
    (tSeq (tDrop (tBM K "list" rAppend (tVar 3) (tCons (tLam0 (tabsT T) lamQ (LamObj lamQ (lamP 1) (lamB 1) (lamSc 1) (cloFrom cells (lamSc 1).names []))) tNil)))
    (tSeq (tDrop (tBM K "list" rAppend (tVar 3) (tCons (tLam0 (tabsT T) lamQ (LamObj lamQ (lamP 2) (lamB 2) (lamSc 2) (cloFrom cells (lamSc 2).names []))) tNil)))
    (tSeq (tDrop (tBM K "list" rAppend (tVar 3) (tCons (tLam0 (tabsT T) lamQ (LamObj lamQ (lamP 3) (lamB 3) (lamSc 3) (cloFrom cells (lamSc 3).names []))) tNil)))
    (tSeq (tDrop (tBM K "list" rAppend (tVar 3) (tCons (tLam0 (tabsT T) lamQ (LamObj lamQ (lamP 4) (lamB 4) (lamSc 4) (cloFrom cells (lamSc 4).names []))) tNil)))
    (tSeq (tDrop (tBM K "list" rAppend (tVar 3) (tCons (tLam0 (tabsT T) lamQ (LamObj lamQ (lamP 5) (lamB 5) (lamSc 5) (cloFrom cells (lamSc 5).names []))) tNil)))
    (tSeq (tDrop (tBM K "list" rAppend (tVar 3) (tCons (tLam0 (tabsT T) lamQ (LamObj lamQ (lamP 6) (lamB 6) (lamSc 6) (cloFrom cells (lamSc 6).names []))) tNil)))
    (tSeq (tDrop (tBM K "list" rAppend (tVar 3) (tCons (tLam0 (tabsT T) lamQ (LamObj lamQ (lamP 7) (lamB 7) (lamSc 7) (cloFrom cells (lamSc 7).names []))) tNil)))
    (tSeq (tDrop (tBM K "list" rAppend (tVar 3) (tCons (tLam0 (tabsT T) lamQ (LamObj lamQ (lamP 8) (lamB 8) (lamSc 8) (cloFrom cells (lamSc 8).names []))) tNil)))
    (tSeq (tDrop (tBM K "list" rAppend (tVar 3) (tCons (tLam0 (tabsT T) lamQ (LamObj lamQ (lamP 9) (lamB 9) (lamSc 9) (cloFrom cells (lamSc 9).names []))) tNil)))
    (tRet (tCallLam lamQ lamF cells 10 (lamT T E) (tOp (rIxL K) (tVar 3) (tVar 1)))))))))))))))
theorem sc__law_asked : FnScope ["_law_lines_here", "_law_n", "_law_a", "_law_some"] ["_law_lines_here"] (defScope s__law_asked) := ⟨rfl, rfl, rfl, by decide +kernel, rfl, by decide +kernel, by decide +kernel⟩
theorem d__law_asked {P : Program} {w : World} {K : PySem.W.Frag} {mg : Str → Option Value} {base : Heap} (T : Txt K mg) (TB : LamX.TabB base mg T.l_asked.c T.l_asked.tab) {f : Addr} {A : Around} {outer : List Env} {s : Shared} {H : Hp} {E : XK} (hr : Room 10 (A.deeper (envOfC "_law_asked" (defScope s__law_asked) s.heap.objs.size f (.ref T.l_asked.c)))) :
    PSs (cxOf (L2.CX P w) P w K mg base ["_law_lines_here", "_law_n", "_law_a", "_law_some"] "_law_asked" (defScope s__law_asked) f (.ref T.l_asked.c) A outer s H E) (defBody s__law_asked) (t__law_asked K T E (envOfC "_law_asked" (defScope s__law_asked) s.heap.objs.size f (.ref T.l_asked.c)).cells) := by
  have hu := hu_of hr
  exact (pss_cons (ps_asg (pe_tup (pa_cons (pe_callB call_len_seq (by rfl) T.b_len (by decide +kernel) (pa_cons (pv 0) pa_nil)) (pa_cons (pe_op op_cat (pe_callTy call_list_of (by rfl) T.b_list (by decide +kernel) (pa_cons (pv 0) pa_nil)) (pe_op op_rep (pe_lst (pa_cons pe_str pa_nil)) pe_int)) pa_nil))) (pg_tup rfl (pgs_cons (pg_name (i := 1) sc__law_asked.nd rfl (Or.inl rfl)) (pgs_cons (pg_name (i := 2) sc__law_asked.nd rfl (Or.inr rfl)) pgs_nil))))
      (pss_cons (ps_asg (pe_lst (pa_cons (pe_lam0 TB rfl (List.mem_singleton.mpr rfl) (fun p hp _ => congrArg Prod.snd (List.mem_singleton.mp hp)) (lamS_ok 0 (by decide)) rfl) pa_nil)) (pg_name (i := 3) sc__law_asked.nd rfl (Or.inl rfl)))
      (pss_cons (ps_expr (pe_bm PySem.F.plainAttrs_list PySem.F.slot_list_append PySem.F.type_list_append mt_append (pv 3) (pa_cons (pe_lam0 TB rfl (List.mem_singleton.mpr rfl) (fun p hp _ => congrArg Prod.snd (List.mem_singleton.mp hp)) (lamS_ok 1 (by decide)) rfl) pa_nil)))
      (pss_cons (ps_expr (pe_bm PySem.F.plainAttrs_list PySem.F.slot_list_append PySem.F.type_list_append mt_append (pv 3) (pa_cons (pe_lam0 TB rfl (List.mem_singleton.mpr rfl) (fun p hp _ => congrArg Prod.snd (List.mem_singleton.mp hp)) (lamS_ok 2 (by decide)) rfl) pa_nil)))
      (pss_cons (ps_expr (pe_bm PySem.F.plainAttrs_list PySem.F.slot_list_append PySem.F.type_list_append mt_append (pv 3) (pa_cons (pe_lam0 TB rfl (List.mem_singleton.mpr rfl) (fun p hp _ => congrArg Prod.snd (List.mem_singleton.mp hp)) (lamS_ok 3 (by decide)) rfl) pa_nil)))
      (pss_cons (ps_expr (pe_bm PySem.F.plainAttrs_list PySem.F.slot_list_append PySem.F.type_list_append mt_append (pv 3) (pa_cons (pe_lam0 TB rfl (List.mem_singleton.mpr rfl) (fun p hp _ => congrArg Prod.snd (List.mem_singleton.mp hp)) (lamS_ok 4 (by decide)) rfl) pa_nil)))
      (pss_cons (ps_expr (pe_bm PySem.F.plainAttrs_list PySem.F.slot_list_append PySem.F.type_list_append mt_append (pv 3) (pa_cons (pe_lam0 TB rfl (List.mem_singleton.mpr rfl) (fun p hp _ => congrArg Prod.snd (List.mem_singleton.mp hp)) (lamS_ok 5 (by decide)) rfl) pa_nil)))
      (pss_cons (ps_expr (pe_bm PySem.F.plainAttrs_list PySem.F.slot_list_append PySem.F.type_list_append mt_append (pv 3) (pa_cons (pe_lam0 TB rfl (List.mem_singleton.mpr rfl) (fun p hp _ => congrArg Prod.snd (List.mem_singleton.mp hp)) (lamS_ok 6 (by decide)) rfl) pa_nil)))
      (pss_cons (ps_expr (pe_bm PySem.F.plainAttrs_list PySem.F.slot_list_append PySem.F.type_list_append mt_append (pv 3) (pa_cons (pe_lam0 TB rfl (List.mem_singleton.mpr rfl) (fun p hp _ => congrArg Prod.snd (List.mem_singleton.mp hp)) (lamS_ok 7 (by decide)) rfl) pa_nil)))
      (pss_cons (ps_expr (pe_bm PySem.F.plainAttrs_list PySem.F.slot_list_append PySem.F.type_list_append mt_append (pv 3) (pa_cons (pe_lam0 TB rfl (List.mem_singleton.mpr rfl) (fun p hp _ => congrArg Prod.snd (List.mem_singleton.mp hp)) (lamS_ok 8 (by decide)) rfl) pa_nil)))
      (pss_cons (ps_expr (pe_bm PySem.F.plainAttrs_list PySem.F.slot_list_append PySem.F.type_list_append mt_append (pv 3) (pa_cons (pe_lam0 TB rfl (List.mem_singleton.mpr rfl) (fun p hp _ => congrArg Prod.snd (List.mem_singleton.mp hp)) (lamS_ok 9 (by decide)) rfl) pa_nil)))
      (pss_one (ps_ret (pe_callLam (F := lamF) (n := 10) (k := 9) (E := E) (pe_ix ix_list (pv 3) (pv 1) (fun _ _ => rfl)) (fun i hi => lamS_ok i hi) (fun i hi => lam_bind i hi) (takes_of rfl rfl rfl rfl) (fun _ _ _ _ h => h) (hr.mono (by decide)) (lam_body T)))))))))))))))

end K08

namespace K08
open PySem PySem.Spec PyProof.Rows L2 Evl
/-! ### what _law_asked answers -/
/-- the heap without its tables -/
def dt (H : Hp) : Hp := fun b => match H b with
  | some (.tbl _) => none
  | o => o
theorem dt_some {H : Hp} {b : Addr} {o : HO} (h : H b = some o) (n : ∀ ps, o ≠ .tbl ps) : dt H b = some o := by
  unfold dt
  rw [h]
  cases o <;> first | rfl | exact absurd rfl (n _)
theorem dt_back {H : Hp} {b : Addr} {o : HO} (h : dt H b = some o) : H b = some o ∧ ∀ ps, o ≠ .tbl ps := by
  unfold dt at h
  cases hb : H b with
  | none => rw [hb] at h; cases h
  | some u =>
    rw [hb] at h
    cases u <;> first | exact ⟨h, fun ps e => by subst e; cases h⟩ | cases h
theorem dt_ex (H : Hp) : Ex (dt H) H := fun _ _ h => (dt_back h).1
theorem dt_n {H H' : Hp} (e : LamX.ExtN H H') : Ex (dt H) (dt H') := fun b o h => dt_some (e b o (dt_back h).1 (dt_back h).2) (dt_back h).2
theorem ext_n {H H' : Hp} (e : Ex H H') : LamX.ExtN H H' := fun b o h _ => e b o h
theorem lst_tbl {xs : List V} : ∀ ps, HO.lst xs ≠ .tbl ps := fun _ z => nomatch z
theorem tup_tbl {xs : List V} : ∀ ps, HO.tup xs ≠ .tbl ps := fun _ z => nomatch z
theorem dice_tbl {d : Addr} : ∀ ps, DiceO d ≠ .tbl ps := fun _ z => by unfold DiceO at z; cases z
theorem code_lst {c : Addr} {q : Str} {xs : List V} : LamX.CodeO c q ≠ .lst xs := fun z => by unfold LamX.CodeO at z; cases z
theorem lam_lst {q : Str} {pa : Arguments} {b : Expr} {sc : Scope} {cl : List (Str × Addr)} {f c : Addr} {xs : List V} : LamObj q pa b sc cl f c ≠ .lst xs := fun z => by unfold LamObj at z; cases z
theorem tabs_upd {Tl : List (Addr × Str)} {H : Hp} {l : Addr} {xs : List V} {o : HO} (hl : H l = some (.lst xs)) (t : LamX.Tabs Tl H) : LamX.Tabs Tl (upd H l o) := fun p hp => by
  obtain ⟨ps, h1, h2, h3⟩ := t p hp
  refine ⟨ps, by rw [upd_ne (fun e => by rw [e, hl] at h1; cases h1)]; exact h1, h2, fun pos cv hc => ?_⟩
  obtain ⟨c, e1, e2⟩ := h3 pos cv hc
  exact ⟨c, e1, by rw [upd_ne (fun e => by rw [e, hl] at e2; exact code_lst (Option.some.inj e2).symm)]; exact e2⟩
theorem tabs_ex {Tl : List (Addr × Str)} {H H' : Hp} (e : Ex H H') (t : LamX.Tabs Tl H) : LamX.Tabs Tl H' := t.ext e
def AskQ {K : PySem.W.Frag} {mg : Str → Option Value} (T : Txt K mg) (H : Hp) (os : List (Option Str)) (Q : VK) (E : XK) : Prop :=
  (∀ i, toldOf os = .parse i → ∀ d H', LamX.ExtN H H' → LamX.Tabs (tabsT T) H' → H' d = some (.xd [("number", .int (i : Nat))]) → E (.ref T.peC) (some d) H') ∧ (toldOf os = .question → ∀ H', LamX.ExtN H H' → LamX.Tabs (tabsT T) H' → E (.ref T.InvalidQuestion.C) none H') ∧ (∀ ls, toldOf os = .lines ls → ∀ b H', LamX.ExtN H H' → LamX.Tabs (tabsT T) H' → QuA T H' b ls → Q (.ref b) H')
def sp__law_asked {K : PySem.W.Frag} {mg : Str → Option Value} (T : Txt K mg) : Sp := fun vs H Q E => ∃ (p : Addr) (xs : List V) (os : List (Option Str)), vs = [.ref p] ∧ SqL K H p xs ∧ LnsR K (dt H) xs os ∧ xs.length ≤ 9 ∧ LamX.Tabs (tabsT T) H ∧ AskQ T H os Q E
theorem len__law_asked {K : PySem.W.Frag} {mg : Str → Option Value} {T : Txt K mg} : ∀ vs H Q E, sp__law_asked T vs H Q E → vs.length = 1 := fun vs H Q E ⟨_, _, _, e, _⟩ => by rw [e]; rfl
structure AskI {K : PySem.W.Frag} {mg : Str → Option Value} (T : Txt K mg) (cells : List (Str × Addr)) (H0 H : Hp) (l a : Addr) (ys : List V) (fs : List Addr) : Prop where
  e : LamX.ExtN H0 H
  l0 : dt H0 l = none
  tabs : LamX.Tabs (tabsT T) H
  hl : H l = some (.lst (fs.map V.ref))
  ha : H a = some (.lst ys)
  al : a ≠ l
  lams : ∀ i f, fs[i]? = some f → ∃ c', H f = some (LamObj lamQ (lamP i) (lamB i) (lamSc i) (cloFrom cells (lamSc i).names []) f c') ∧ H c' = some (LamX.CodeO c' lamQ)
section
variable {K : PySem.W.Frag} {mg : Str → Option Value} {T : Txt K mg} {cells : List (Str × Addr)} {H0 H : Hp} {l a : Addr} {ys xs : List V} {fs : List Addr} {σ : L2.St} {D : Ends} {tz : TS}
abbrev lamR (T : Txt K mg) (cells : List (Str × Addr)) (n : Nat) : TE := tLam0 (tabsT T) lamQ (LamObj lamQ (lamP n) (lamB n) (lamSc n) (cloFrom cells (lamSc n).names []))
theorem ask_app {n : Nat} (h : AskI T cells H0 H l a ys fs) (hn : fs.length = n) (h9 : n < 100) (hs : σ[3]? = some (some (.ref l))) (k : ∀ H' fs', fs'.length = n + 1 → AskI T cells H0 H' l a ys fs' → tz D σ H') : tSeq (tDrop (tBM K "list" rAppend (tVar 3) (tCons (lamR T cells n) tNil))) tz D σ H := by
  refine ⟨.ref l, hs, .inl ⟨rfl, _, SqL.of h.hl⟩, h.tabs, fun f c' H1 e1 t1 nf h1 h2 => ?_⟩
  have hl1 := e1 _ _ h.hl lst_tbl
  refine ⟨l, fs.map V.ref, .ref f, rfl, rfl, hl1, sz_lt (by rw [List.length_map]; omega), ?_⟩
  have em : fs.map V.ref ++ [.ref f] = (fs ++ [f]).map V.ref := by rw [List.map_append]; rfl
  rw [em]
  refine k _ (fs ++ [f]) (by rw [List.length_append, hn]; rfl) ⟨fun b o hb ht => ?_, h.l0, tabs_upd hl1 t1, upd_same, by rw [upd_ne h.al]; exact e1 _ _ h.ha lst_tbl, h.al, fun i g hi => ?_⟩
  · rw [upd_ne (ne_of_none (dt_some hb ht) h.l0)]
    exact e1 _ _ (h.e _ _ hb ht) ht
  · have keep : ∀ {b : Addr} {o : HO}, H1 b = some o → (∀ xs, o ≠ .lst xs) → upd H1 l (.lst ((fs ++ [f]).map V.ref)) b = some o := fun {b o} hb ho => by
      rw [upd_ne (fun e => by rw [e, hl1] at hb; exact ho _ (Option.some.inj hb).symm)]
      exact hb
    by_cases hlt : i < fs.length
    · rw [List.getElem?_append_left hlt] at hi
      obtain ⟨c, a1, a2⟩ := h.lams i g hi
      exact ⟨c, keep (e1 _ _ a1 lamObj_ne) (fun _ => lam_lst), keep (e1 _ _ a2 LamX.codeO_ne) (fun _ => code_lst)⟩
    · rw [List.getElem?_append_right (by omega)] at hi
      have hi0 : i - fs.length = 0 := by
        have := (List.getElem?_eq_some_iff.mp hi).1
        simp only [List.length_cons, List.length_nil] at this
        omega
      rw [hi0] at hi
      cases hi
      have : i = n := by omega
      subst this
      exact ⟨c', keep h1 (fun _ => lam_lst), keep h2 (fun _ => code_lst)⟩
theorem ea_args (hs : σ[2]? = some (some (.ref a))) (ha : H a = some (.lst ys)) : ∀ (n k : Nat), k + n ≤ ys.length → EvA (argsT K k n) σ H ((ys.drop k).take n)
  | 0, k, _ => by
    rw [List.take_zero]
    exact ea_nil
  | n + 1, k, h => by
    have hd : ys.drop k = ys[k] :: ys.drop (k + 1) := (List.getElem_cons_drop (h := by omega)).symm
    rw [hd, List.take_succ_cons]
    exact ea_cons (ev_op (ev_var hs) ev_c (rv_ixL (SqL.of ha) (atI_nat (i := k) (List.getElem?_eq_getElem (by omega))))) (ea_args hs ha n (k + 1) (by omega))
theorem el_nine {z : V} : EvL (tOp rRep (tLst (tCons (tC z) tNil)) (tC (.int 9))) σ H (List.replicate 9 z) := fun H1 e Q q =>
  (el_lst (ea_cons ev_c ea_nil) (Nat.le_of_ble_eq_true rfl)) H1 e _ fun p H2 hp e2 hx => ⟨p, 9, [z], rfl, rfl, hx, by decide, by decide, Nat.le_of_ble_eq_true rfl, fun r hr => q r _ (fresh_back e2 hr) (e2.trans (Ex.new hr)) upd_same⟩
end
theorem pure__law_asked {K : PySem.W.Frag} {mg : Str → Option Value} (T : Txt K mg) {vs : List V} {H : Hp} {Q : VK} {E : XK} (cells : List (Str × Addr)) (h : sp__law_asked T vs H Q E) : t__law_asked K T E cells { nx := fun _ H' => Q .non H', rt := Q } (start ["_law_lines_here", "_law_n", "_law_a", "_law_some"] vs) H := by
  obtain ⟨p, xs, os, rfl, hp, hL, hz, hT, q⟩ := h
  refine (ev_len (ev_var rfl) hp) H (Ex.refl H) _ fun H1 e1 => ?_
  refine (el_cat (ew_new (el_list (ev_var rfl) hp)) (ew_new el_nine) (by rw [List.length_replicate]; omega)) H1 e1 _ fun a H2 ha e2 hx => ?_
  refine ⟨Nat.le_of_ble_eq_true rfl, fun u hu => ⟨u, _, rfl, SqT.of upd_same, rfl, _, _, rfl, _, _, rfl, rfl, ?_⟩⟩
  have e3 := Ex.new (o := .tup [.int (xs.length : Int), .ref a]) hu
  generalize upd H2 u (.tup [.int (xs.length : Int), .ref a]) = H3 at *
  have e03 := (e1.trans e2).trans e3
  have ha3 := e3 _ _ hx
  refine ⟨hT.ext e03, fun f c' H4 e4 t4 nf h1 h2 => ⟨Nat.le_of_ble_eq_true rfl, fun l hl => ?_⟩⟩
  have al : a ≠ l := ne_of_none (e4 _ _ ha3 lst_tbl) hl
  have n4 := Ex.new (o := .lst [.ref f]) hl
  have l0 : dt H l = none := by
    cases hh : dt H l with
    | none => rfl
    | some o =>
      obtain ⟨h1, h2⟩ := dt_back hh
      rw [e4 _ _ (e03 _ _ h1) h2] at hl
      cases hl
  have I : AskI T cells H (upd H4 l (.lst [.ref f])) l a (xs ++ List.replicate 9 (.str "")) [f] := ⟨(ext_n e03).trans (e4.trans (ext_n n4)), l0, t4.ext n4, upd_same, n4 _ _ (e4 _ _ ha3 lst_tbl), al, fun i g hi => ?_⟩
  · refine ask_app (n := 1) I rfl (by decide) rfl fun H5 fs h5 I => ?_
    refine ask_app (n := 2) I h5 (by decide) rfl fun H6 fs h5 I => ?_
    refine ask_app (n := 3) I h5 (by decide) rfl fun H7 fs h5 I => ?_
    refine ask_app (n := 4) I h5 (by decide) rfl fun H8 fs h5 I => ?_
    refine ask_app (n := 5) I h5 (by decide) rfl fun H9 fs h5 I => ?_
    refine ask_app (n := 6) I h5 (by decide) rfl fun H10 fs h5 I => ?_
    refine ask_app (n := 7) I h5 (by decide) rfl fun H11 fs h5 I => ?_
    refine ask_app (n := 8) I h5 (by decide) rfl fun H12 fs h5 I => ?_
    refine ask_app (n := 9) I h5 (by decide) rfl fun H13 fs h5 I => ?_
    have hlt : xs.length < fs.length := by omega
    have hg : fs[xs.length]? = some fs[xs.length] := List.getElem?_eq_getElem hlt
    have hv : Ev (tOp (rIxL K) (tVar 3) (tVar 1)) [some (.ref p), some (.int (xs.length : Int)), some (.ref a), some (.ref l)] H13 (.ref fs[xs.length]) := ev_op (ev_var rfl) (ev_var rfl) (rv_ixL (SqL.of I.hl) (atI_nat (xs := fs.map V.ref) (i := xs.length) (v := .ref fs[xs.length]) (by rw [List.getElem?_map, hg]; rfl)))
    refine hv H13 (Ex.refl _) _ fun H14 e14 => ?_
    obtain ⟨c, a1, a2⟩ := I.lams _ _ hg
    refine ⟨xs.length, _, c, by omega, rfl, e14 _ _ a1, e14 _ _ a2, rfl, ?_⟩
    have hA := ea_args (K := K) (σ := [some (.ref p), some (.int (xs.length : Int)), some (.ref a), some (.ref l)]) (H := H14) (a := a) rfl (e14 _ _ I.ha) xs.length 0 (by rw [List.length_append]; omega)
    rw [List.drop_zero, List.take_left'] at hA
    · refine hA H14 (Ex.refl _) _ fun H15 e15 => ⟨[.ref T.Question.C], xs, rfl, rfl, sz_of (by omega), fun pp hpp => ?_⟩
      have eN : LamX.ExtN H (upd H15 pp (.tup xs)) := I.e.trans (ext_n ((e14.trans e15).trans (Ex.new hpp)))
      have tN : LamX.Tabs (tabsT T) (upd H15 pp (.tup xs)) := I.tabs.ext ((e14.trans e15).trans (Ex.new hpp))
      exact ⟨pp, xs, os, rfl, upd_same, hL.ex ((dt_n eN).trans (dt_ex _)), by omega, fun i hi d H' e' hd => q.1 i hi d H' (eN.trans (ext_n e')) (tN.ext e') hd, fun hi H' e' => q.2.1 hi H' (eN.trans (ext_n e')) (tN.ext e'), fun ls hi b H' e' hq => q.2.2 ls hi b H' (eN.trans (ext_n e')) (tN.ext e') hq⟩
    · rfl
  · match i, hi with
    | 0, hi =>
      cases hi
      exact ⟨c', n4 _ _ h1, n4 _ _ h2⟩
    | i + 1, hi => cases hi

end K08

namespace K08
open PySem PySem.Spec PyProof.Rows L2 Evl
/-! ### _law_told -/
theorem ok_asked {P : Program} {w : World} {K : PySem.W.Frag} {mg : Str → Option Value} {base : Heap} (T : Txt K mg) (TB : LamX.TabB base mg T.l_asked.c T.l_asked.tab) : ∃ fd, FnOk P w K mg base (L2.CX P w) 11 T.l_asked.f fd ["_law_lines_here"] (sp__law_asked T) ∧ Binds K fd ["_law_lines_here"] [] := by
  obtain ⟨oc, od, an, osl, kV, doc, pm, ct, lk⟩ := T.l_asked.lk
  exact ⟨_, fn_of lk T.l_asked.hc sc__law_asked len__law_asked fun A outer s H vs Q E hr h => ⟨_, d__law_asked T TB hr, pure__law_asked T _ h⟩, .all fun us hl => match us, hl with | [_], _ => rfl⟩
theorem passes_len {X : Cx} {W : WX} {E : XK} (tk : Takes X W) (hW : ∀ cls d (σ : L2.St) H, σ.length = X.N.length → E cls d H → W cls d σ H) : Passes (L2.CX X.prog X.w) X E :=
  fun _ σ _ _ e s' I c => tk e s' (XE.of_call I (fun cls d H' h => hW cls d σ H' I.len h) c)
def tbA {K : PySem.W.Frag} {mg : Str → Option Value} (T : Txt K mg) : WX → TS := fun W => tRet (tCB (rListS K) (tCons (SlX.tPropSl T.Question.C (sp_Question_lines T) E0 (tCall (sp__law_asked T) [] (fun cls d H => ∀ σ : L2.St, σ.length = 2 → W cls d σ H) (tCons (tVar 0) tNil))) tNil))
def ts1 {K : PySem.W.Frag} {mg : Str → Option Value} (T : Txt K mg) (a : Addr) (cls : Value) (d : Option Addr) : TS := tRet (tOp rCatS (tC (.str "parse ")) (tCB rReprI (tCons (tXf a cls d T.peC "number" (tVar 1)) tNil)))
def ts2 (_ : Addr) (_ : Value) (_ : Option Addr) : TS := tRet (tC (.str "question"))
def t__law_told (K : PySem.W.Frag) {mg : Str → Option Value} (T : Txt K mg) : TS :=
  (fun D σ H => tbA T (wAs K (.ref T.peC) 1 (ts1 T) (wMany K (fun _ _ _ _ => False) D [(.ref T.InvalidQuestion.C, ts2)]) D) D σ H)
theorem take_lt : ∀ (os : List (Option Str)) (s : QS) (k i : Nat), takeAll s k os = .inl i → i < k + os.length
  | [], s, k, i, h => by cases h
  | o :: r, s, k, i, h => by
    rw [takeAll] at h
    cases hs : stepLine s o with
    | none =>
      rw [hs] at h
      cases h
      simp
    | some s' =>
      rw [hs] at h
      have := take_lt r s' (k + 1) i h
      rw [List.length_cons]
      omega
theorem told_lt {os : List (Option Str)} {i : Nat} (h : toldOf os = .parse i) : i < os.length := by
  unfold toldOf at h
  cases ht : takeAll qs0 0 os with
  | inl j =>
    rw [ht] at h
    cases h
    have := take_lt os qs0 0 i ht
    omega
  | inr s =>
    rw [ht] at h
    unfold resOf at h
    dsimp only at h
    split at h <;> cases h
def sp__law_told {K : PySem.W.Frag} {mg : Str → Option Value} (T : Txt K mg) : Sp := fun vs H Q _ => ∃ (p : Addr) (xs : List V) (os : List (Option Str)), vs = [.ref p] ∧ SqL K H p xs ∧ LnsR K (dt H) xs os ∧ xs.length ≤ 9 ∧ LamX.Tabs (tabsT T) H ∧ ∀ v H', LamX.ExtN H H' → LamX.Tabs (tabsT T) H' → ResR H' v (toldOf os) → (∀ t, v = .ref t → dt H t = none) → Q v H'
theorem len__law_told {K : PySem.W.Frag} {mg : Str → Option Value} {T : Txt K mg} : ∀ vs H Q E, sp__law_told T vs H Q E → vs.length = 1 := fun vs H Q E ⟨_, _, _, e, _⟩ => by rw [e]; rfl
theorem pure__law_told {K : PySem.W.Frag} {mg : Str → Option Value} (T : Txt K mg) {vs : List V} {H : Hp} {Q : VK} {E : XK} (h : sp__law_told T vs H Q E) : t__law_told K T { nx := fun _ H' => Q .non H', rt := Q } (start ["_law_lines_here", "e"] vs) H := by
  obtain ⟨p, xs, os, rfl, hp, hL, hz, hT, q⟩ := h
  have hlen : xs.length = os.length := Paired.length hL
  unfold t__law_told tbA
  refine ⟨_, rfl, p, xs, os, rfl, hp, hL, hz, hT, fun i hi d H' e t hd σ hs => ⟨true, T.exPP, fun _ a na => ?_, (fun h => by cases h)⟩, fun hi H' e t σ hs => ⟨false, T.exQP, (fun h => by cases h), fun _ => ⟨true, T.exQQ, fun _ a na => ?_, (fun h => by cases h)⟩⟩, fun ls hi b H' e t hq => ?_⟩
  · have hv : Ev (tXf a (.ref T.peC) (some d) T.peC "number" (tVar 1)) (σ.set 1 (some (.ref a))) H' (.int (i : Nat)) := fun H1 e1 Q1 q1 => ev_var (List.getElem?_set_self (by omega)) H1 e1 _ fun H2 e2 => ⟨rfl, rfl, d, _, _, rfl, e2 _ _ (e1 _ _ hd), rfl, q1 H2 e2⟩
    have hi9 := told_lt hi
    exact s_ret (ev_parse hv (by omega)) fun H3 e3 => q _ H3 (e.trans (ext_n e3)) (t.ext e3) (by rw [hi]; rfl) (fun _ z => nomatch z)
  · exact s_ret ev_c fun H3 e3 => q _ H3 (e.trans (ext_n e3)) (t.ext e3) (by rw [hi]; rfl) (fun _ z => nomatch z)
  · obtain ⟨dx, tt, vs, h1, h2, h3⟩ := id hq
    exact ⟨b, dx, vs, rfl, h1, b, ls, rfl, hq, fun t2 H2 e2 ht2 => ⟨t2, _, rfl, .inr (SqT.of ht2), fun l hl => q (.ref l) _ (e.trans (ext_n (e2.trans (Ex.new hl)))) (t.ext (e2.trans (Ex.new hl))) (by rw [hi]; exact ⟨l, rfl, upd_same⟩) fun t z => by
      cases z
      cases hh : dt H l with
      | none => rfl
      | some o =>
        rw [e2 _ _ (e _ _ (dt_back hh).1 (dt_back hh).2)] at hl
        cases hl⟩⟩
theorem sc__law_told : FnScope ["_law_lines_here", "e"] ["_law_lines_here"] (defScope s__law_told) := ⟨rfl, rfl, rfl, by decide +kernel, rfl, by decide +kernel, by decide +kernel⟩
theorem d__law_told {P : Program} {w : World} {K : PySem.W.Frag} {mg : Str → Option Value} {base : Heap} (T : Txt K mg) (TB : LamX.TabB base mg T.l_asked.c T.l_asked.tab) {f : Addr} {cdv : Value} {A : Around} {outer : List Env} {s : Shared} {H : Hp} {E : XK} (hr : Room 12 (A.deeper (envOfC "_law_told" (defScope s__law_told) s.heap.objs.size f cdv))) :
    PSs (cxOf CX0 P w K mg base ["_law_lines_here", "e"] "_law_told" (defScope s__law_told) f cdv A outer s H E).nox (defBody s__law_told) (t__law_told K T) := by
  have hu := hu_of hr
  obtain ⟨fd, F, hbd⟩ := ok_asked (P := P) (w := w) (base := base) T TB
  exact (pss_one (ps_try_as2 (i := 1) (c := .ref T.peC) (c2 := .ref T.InvalidQuestion.C) (tb := tbA T) (ts := ts1 T) (ts2 := ts2) (Wo := fun _ _ _ _ => False) rfl rfl sc__law_told.nd rfl rfl ⟨rfl, by decide, .inl T.peG⟩ ⟨rfl, by decide, .inl T.InvalidQuestion.g⟩ takes_none5 (fun W pn xe tk _ => pss_one (ps_ret (pe_callTy call_list_of (by rfl) T.b_list (by decide +kernel) (pa_cons (SlX.pe_propSl (pe_call (E := fun cls d H => ∀ σ : L2.St, σ.length = 2 → W cls d σ H) F (hr.mono (by decide)) (by rfl) T.l_asked.g T.l_asked.F.kp hbd .nil (passes_len tk fun cls d σ H hs h => h σ hs) (pa_cons (pv 0) pa_nil)) T.Question.sc T.Question_lines.at_ T.Question_lines.get T.Question_lines.tk T.Question_lines.rc (r_Question_lines T) (hr.mono (by decide)) (fun _ _ _ _ h => h)) pa_nil)))) (fun a oe cls d pn hz hf => pss_one (ps_ret (pe_op op_add_str pe_str (pe_callB SkE.call_repr_int (by rfl) T.b_repr (by decide +kernel) (pa_cons (pe_xf T.peX T.peN hz hf (pv 1)) pa_nil))))) (fun a oe cls d pn _ _ => pss_one (ps_ret pe_str))))
theorem ok__law_told {P : Program} {w : World} {K : PySem.W.Frag} {mg : Str → Option Value} {base : Heap} (T : Txt K mg) (TB : LamX.TabB base mg T.l_asked.c T.l_asked.tab) : FnOk P w K mg base CX0 13 T.l_told.f T.l_told.fd ["_law_lines_here"] (sp__law_told T) :=
  ok0 T.l_told.F sc__law_told len__law_told fun cdv A outer s H vs Q E hr h => ⟨t__law_told K T, d__law_told T TB hr, pure__law_told T h⟩
theorem cl__law_told {P : Program} {w : World} {K : PySem.W.Frag} {mg : Str → Option Value} {base : Heap} (T : Txt K mg) (TB : LamX.TabB base mg T.l_asked.c T.l_asked.tab) : Cl P w K mg base 13 "_law_told" (sp__law_told T) := cl_of T.l_told (ok__law_told T TB) fun _ _ _ _ _ _ us hl => match us, hl with | [_], _ => rfl

end K08

namespace K08
open PySem PySem.Spec PyProof.Rows L2 Evl
/-! ### lines near a line (plain) -/
structure LineOk (z : Str) : Prop where
  lo : 1 ≤ z.length
  hi : z.length ≤ 28
  ok : PyData.strOk z = true
theorem joinL_facts : ∀ (ps : List (List Nat)), (TL.joinL [32] ps).length ≤ (ps.map List.length).sum + ps.length ∧ ∀ c ∈ TL.joinL [32] ps, c = 32 ∨ ∃ p ∈ ps, c ∈ p
  | [] => ⟨Nat.le_refl _, fun c hc => nomatch hc⟩
  | [p] => by
    refine ⟨?_, fun c hc => .inr ⟨p, List.mem_cons_self, hc⟩⟩
    show p.length ≤ _
    simp only [List.map_cons, List.map_nil, List.sum_cons, List.sum_nil, List.length_cons, List.length_nil]
    omega
  | p :: q :: r => by
    obtain ⟨h1, h2⟩ := joinL_facts (q :: r)
    refine ⟨?_, fun c hc => ?_⟩
    · show (p ++ ([32] ++ TL.joinL [32] (q :: r))).length ≤ _
      rw [List.length_append, List.length_append, List.map_cons, List.sum_cons, List.length_cons]
      simp only [List.length_cons, List.length_nil] at h1 ⊢
      omega
    · change c ∈ p ++ ([32] ++ TL.joinL [32] (q :: r)) at hc
      rcases List.mem_append.mp hc with h | h
      · exact .inr ⟨p, List.mem_cons_self, h⟩
      · rcases List.mem_append.mp h with h | h
        · exact .inl (List.mem_singleton.mp h)
        · rcases h2 c h with h | ⟨x, hx, hc⟩
          · exact .inl h
          · exact .inr ⟨x, List.mem_cons_of_mem _ hx, hc⟩
def wlen (l : List Str) : Nat := (l.map (·.length)).sum + l.length
theorem wlen_app (a b : List Str) : wlen (a ++ b) = wlen a + wlen b := by
  unfold wlen
  rw [List.map_append, List.sum_append, List.length_append]
  omega
theorem wlen_one (a : Str) : wlen [a] = a.length + 1 := by
  unfold wlen
  simp
theorem join_ok {l : List Str} (h : wlen l ≤ 60) (ok : ∀ w ∈ l, PyData.strOk w = true) : lnOk (Txt.join " " l) := by
  have e : TL.tl (Txt.join " " l) = TL.joinL [32] (l.map TL.tl) := by rw [TL.join_eq, TL.tl_join, tl_space]
  obtain ⟨h1, h2⟩ := joinL_facts (l.map TL.tl)
  have hs : ((l.map TL.tl).map List.length) = l.map (·.length) := by
    rw [List.map_map]
    exact List.map_congr_left fun w _ => (tl_len w).symm
  rw [hs, List.length_map] at h1
  refine ⟨by rw [tl_len, e]; exact Nat.le_trans h1 h, strOk_iff.mpr fun c hc => ?_⟩
  rw [e] at hc
  rcases h2 c hc with rfl | ⟨p, hp, hc⟩
  · decide
  · obtain ⟨w, hw, rfl⟩ := List.mem_map.mp hp
    exact strOk_iff.mp (ok w hw) c hc
theorem spl_sum (s : Nat) : ∀ (l acc : List Nat), ((TL.spl [s] 0 acc l).map List.length).sum + (TL.spl [s] 0 acc l).length = acc.length + l.length + 1
  | [], acc => by
    show (([acc] : List (List Nat)).map List.length).sum + ([acc] : List (List Nat)).length = _
    simp
  | c :: r, acc => by
    by_cases h : TL.pre [s] (c :: r) = true
    · rw [TL.spl_hit h]
      have := spl_sum s r []
      simp only [List.map_cons, List.sum_cons, List.length_cons, List.length_nil] at this ⊢
      show acc.length + ((TL.spl [s] 0 [] r).map List.length).sum + ((TL.spl [s] 0 [] r).length + 1) = _
      omega
    · rw [TL.spl_miss (by simpa using h)]
      have := spl_sum s r (acc ++ [c])
      simp only [List.length_append, List.length_cons, List.length_nil] at this ⊢
      omega
theorem words_sum (z : Str) : wlen (wordsOf z) = z.length + 1 := by
  have e := TL.split_spl z " " (by rw [tl_space]; decide) (TL.kind_ok (by decide +kernel))
  rw [tl_space] at e
  have h := spl_sum 32 (TL.tl z) []
  rw [← e] at h
  unfold wlen wordsOf
  rw [List.map_map, List.length_map] at h
  rw [List.length_nil, Nat.zero_add, ← tl_len] at h
  rw [← h]
  congr 2
theorem wlen_split (l : List Str) (k : Nat) : wlen (l.take k) + wlen (l.drop k) = wlen l := by rw [← wlen_app, List.take_append_drop]
theorem wlen_drop (l : List Str) (k j : Nat) (h : k ≤ j) : wlen (l.drop j) ≤ wlen (l.drop k) := by
  have e : l.drop j = (l.drop k).drop (j - k) := by rw [List.drop_drop]; congr 1; omega
  have := wlen_split (l.drop k) (j - k)
  rw [e]
  omega
theorem near_ok {z : Str} (h : LineOk z) : wlen (wordsOf z) ≤ 29 ∧ ∀ w ∈ wordsOf z, PyData.strOk w = true := ⟨by rw [words_sum]; have := h.hi; omega, fun w hw => ((words_ok ⟨by have := h.hi; omega, h.ok⟩).2 w hw).2⟩
theorem cut_ok {z : Str} (lo hi : Option Int) (h : PyData.strOk z = true) : PyData.strOk (cutS z lo hi) = true := strOk_iff.mpr fun c hc => strOk_iff.mp h c (by
  unfold cutS TL.tl at hc
  rw [List.toList_toArray] at hc
  exact List.mem_of_mem_drop (List.mem_of_mem_take hc))
theorem app_ok {x y : Str} (hx : PyData.strOk x = true) (hy : PyData.strOk y = true) : PyData.strOk (x ++ y) = true := strOk_iff.mpr fun c hc => by
  rw [TL.tl_append] at hc
  rcases List.mem_append.mp hc with h | h
  · exact strOk_iff.mp hx c h
  · exact strOk_iff.mp hy c h
theorem lnOk_of {z : Str} (h : LineOk z) : lnOk z := ⟨by have := h.hi; omega, h.ok⟩
def wdC : List Str := ["r", "a", "size", "2/4", "group", "1/61", "10", "9", ""]
theorem wdC_ok : ∀ w ∈ wdC, w.length ≤ 5 ∧ PyData.strOk w = true := fun w hw => by
  have := List.all_eq_true.mp (show wdC.all (fun w => decide (w.length ≤ 5) && PyData.strOk w) = true by decide +kernel) w hw
  rw [Bool.and_eq_true, decide_eq_true_eq] at this
  exact this
def lnC : List Str := ["size r 1", "size s 3/2", "size s -1/2", "size nobody 1", "group a", "group z", "table r a b c d x zz z"]
def lnC2 : List Str := ["table q e f g h x zz", "group b a", "size r 01", "size r 0", "table r"]
theorem lnC_ok : ∀ w ∈ lnC ++ lnC2, lnOk w := fun w hw => by
  have := List.all_eq_true.mp (show (lnC ++ lnC2).all (fun w => decide (w.length ≤ 60) && PyData.strOk w) = true by decide +kernel) w hw
  rw [Bool.and_eq_true, decide_eq_true_eq] at this
  exact this
/-- signs of a text of signs -/
theorem sgn_ok {v : V} {z : Str} (hz : PyData.strOk z = true) (h : v ∈ sgn z) : ∃ x : Str, v = .str x ∧ x.length = 1 ∧ PyData.strOk x = true := by
  unfold sgn at h
  obtain ⟨c, hc, rfl⟩ := List.mem_map.mp h
  refine ⟨⟨#[c]⟩, rfl, rfl, strOk_iff.mpr fun d hd => ?_⟩
  have : d = c := List.mem_singleton.mp hd
  rw [this]
  exact strOk_iff.mp hz c hc
/-! ### what such a line may be -/
def OutR (K : PySem.W.Frag) (v : V) (H : Hp) : Prop := ∃ o, LnR K (dt H) v o
theorem outR_st {K : PySem.W.Frag} : Stable (OutR K) := fun _ _ _ e ⟨o, h⟩ => ⟨o, h.ex (dt_n (ext_n e))⟩
theorem out_s {K : PySem.W.Frag} {z : Str} (H : Hp) (h : lnOk z) : OutR K (.str z) H := ⟨some z, rfl, h⟩
section
variable {K : PySem.W.Frag} {σ : L2.St} {H : Hp} {ta tb td te : TE} {D : Ends} {tz : TS} {P P2 : V → Hp → Prop} {z : Str} {xs : List V}
theorem eq_cR {R : V → Hp → Prop} {v : V} (h : ∀ H, R v H) : EvQ (tC v) σ H R := fun H1 _ Q q => q v H1 (Ex.refl H1) (h H1)
theorem out_non (H : Hp) : OutR K .non H := ⟨none, .type "NoneType", fun _ _ => .base .non, kit_ty (r := false) (by decide +kernel)⟩
theorem out_int (i : Int) (H : Hp) : OutR K (.int i) H := ⟨none, .type "int", fun _ _ => .base (.int i), kit_ty (r := false) (by decide +kernel)⟩
theorem out_bl (b : Bool) (H : Hp) : OutR K (.bl b) H := ⟨none, .type "bool", fun _ _ => .base (.bl b), kit_ty (r := false) (by decide +kernel)⟩
theorem out_tup {p : Addr} (h : H p = some (.tup xs)) : OutR K (.ref p) H := ⟨none, .type "tuple", fun _ e => .base (.tup (e _ _ (dt_some h tup_tbl))), kit_ty (r := false) (by decide +kernel)⟩
theorem out_lst {p : Addr} (h : H p = some (.lst xs)) : OutR K (.ref p) H := ⟨none, .type "list", fun _ e => .base (.lst (e _ _ (dt_some h lst_tbl))), kit_ty (r := false) (by decide +kernel)⟩
theorem out_dk {p : Addr} {kvs : List (Key × V)} (h : H p = some (.dK kvs)) : OutR K (.ref p) H := ⟨none, .type "dict", fun _ e => .base (.dK (e _ _ (dt_some h (fun _ z => nomatch z)))), kit_ty (r := false) (by decide +kernel)⟩
theorem eq_tupR {ta : TA} (h : EvA ta σ H xs) (hz : xs.length ≤ 100000) : EvQ (tTup ta) σ H (OutR K) := fun H1 e Q q => eu_tup h hz H1 e _ fun p H2 _ e2 hx => q _ _ e2 (out_tup hx)
theorem eq_lstR {ta : TA} (h : EvA ta σ H xs) (hz : xs.length ≤ 100000) : EvQ (tLst ta) σ H (OutR K) := fun H1 e Q q => el_lst h hz H1 e _ fun p H2 _ e2 hx => q _ _ e2 (out_lst hx)
theorem eq_disp1 (h : ∀ H1, Ex H H1 → Ev ta σ H1 (.str z)) : EvQ (tDisp [(ta, ta)]) σ H (OutR K) := fun H1 e Q q => by
  intro d hd
  have e0 := Ex.new (H := H1) (o := .dK []) hd
  show ta σ (upd H1 d (.dK [])) fun x H2 => ta σ H2 fun y H3 => tPairs [] σ H3 fun ps H4 => _
  refine h _ (e.trans e0) _ (Ex.refl _) _ fun H2 e2 => h H2 ((e.trans e0).trans e2) H2 (Ex.refl _) _ fun H3 e3 => ?_
  have hd3 : H3 d = some (.dK []) := e3 _ _ (e2 _ _ upd_same)
  refine ⟨hd3, kS [(z, .str z)], rfl, Nat.le_of_ble_eq_true rfl, ?_⟩
  exact q _ _ (((e0.trans e2).trans e3).mut hd) (out_dk upd_same)
theorem q_parQ {i j : Nat} (ha : EvQ ta σ H P) (hb : ∀ H1, Ex H H1 → EvQ tb σ H1 P2) (k : ∀ x y H1 H2, Ex H H1 → P x H1 → Ex H1 H2 → P2 y H2 → tz D ((σ.set i (some x)).set j (some y)) H2) : tSeq (tPar i j (tCons ta (tCons tb tNil))) tz D σ H :=
  ha H (Ex.refl H) _ fun x H1 e1 p1 => hb H1 e1 H1 (Ex.refl H1) _ fun y H2 e2 p2 => ⟨x, y, rfl, k x y H1 H2 e1 p1 e2 p2⟩
theorem EvL.q (h : EvL te σ H xs) : EvQ te σ H (fun v H' => ∃ p, v = .ref p ∧ H' p = some (.lst xs)) := fun H1 e Q q => h H1 e _ fun p H2 _ e2 hx => q _ H2 e2 ⟨p, rfl, hx⟩
theorem s_retQ9 (h : EvQ te σ H P) (k : ∀ v H1, Ex H H1 → P v H1 → D.rt v H1) : tRet te D σ H := h H (Ex.refl H) _ k
theorem el_take {p : Addr} {tn : TE} {k : Nat} (h : Ev te σ H (.ref p)) (hx : H p = some (.lst xs)) (hn : Ev tn σ H (.int (k : Nat))) : EvL (L2.tSl (rSlL K) te tNoPart (tPart tn)) σ H (xs.take k) := by
  rw [← cut_take]
  exact el_sl h eo_none (eo_some hn) (SqL.of hx)
theorem el_drop {p : Addr} {tn : TE} {k : Nat} (h : Ev te σ H (.ref p)) (hx : H p = some (.lst xs)) (hn : Ev tn σ H (.int (k : Nat))) : EvL (L2.tSl (rSlL K) te (tPart tn) tNoPart) σ H (xs.drop k) := by
  rw [← cut_drop]
  exact el_sl h (eo_some hn) eo_none (SqL.of hx)
theorem ev_succ {tn : TE} {k : Nat} (hn : Ev tn σ H (.int (k : Nat))) : Ev (tOp rPlus tn (tC (.int 1))) σ H (.int ((k + 1 : Nat) : Int)) := ev_op hn ev_c rv_I0
theorem nat_of {m : Int} {v : V} (h : ∃ r, v = V.int r ∧ 0 ≤ r ∧ r < m) : ∃ k : Nat, v = .int (k : Nat) ∧ (k : Int) < m := by
  obtain ⟨r, rfl, h1, h2⟩ := h
  exact ⟨r.toNat, by rw [Int.toNat_of_nonneg h1], by omega⟩
end

end K08

namespace K08
open PySem PySem.Spec PyProof.Rows L2 Evl
/-! ### _law_other_line -/
def sp__law_other_line (K : PySem.W.Frag) : Sp := fun vs H Q _ => ∃ (d : Addr) (z : Str), vs = [.ref d, .str z] ∧ H d = some (DiceO d) ∧ LineOk z ∧ ∀ v H', Ex H H' → OutR K v H' → Q v H'
theorem len__law_other_line {K : PySem.W.Frag} : ∀ vs H Q E, sp__law_other_line K vs H Q E → vs.length = 2 := fun vs H Q E ⟨_, _, e, _⟩ => by rw [e]; rfl
def t__law_other_line (K : PySem.W.Frag) : TS :=
  (tSeq (tPar 2 3 (tCons (tM1 rSplit (tVar 1) (tC (.str " "))) (tCons (tClD sp__law_roll (tCons (tVar 0) (tCons (tC (.int 8)) tNil))) tNil)))
    (tSeq (tPar 4 5 (tCons (tClD sp__law_roll (tCons (tVar 0) (tCons (tCB (rLenS K) (tCons (tVar 2) tNil)) tNil))) (tCons (tClD sp__law_roll (tCons (tVar 0) (tCons (tCB rLenStr (tCons (tVar 1) tNil)) tNil))) tNil)))
    (tSeq (tPar 6 7 (tCons (tCl (sp__law_pick K) (tCons (tVar 0) (tCons (tLst (tCons (tC (.str "r")) (tCons (tC (.str "a")) (tCons (tC (.str "size")) (tCons (tC (.str "2/4")) (tCons (tC (.str "group")) (tCons (tC (.str "1/61")) (tCons (tC (.str "10")) (tCons (tC (.str "9")) (tCons (tC (.str "")) tNil)))))))))) tNil))) (tCons (tCl (sp__law_pick K) (tCons (tVar 0) (tCons (tC (.str " aZ0/-")) tNil))) tNil)))
    (tSeq (tIfS (tTest (tOp rEq (tVar 3) (tC (.int 0)))) (tRet (tM1 (rJoin K) (tC (.str " ")) (tOp rCat (tOp rCat (L2.tSl (rSlL K) (tVar 2) tNoPart (tPart (tVar 4))) (tLst (tCons (tVar 6) tNil))) (L2.tSl (rSlL K) (tVar 2) (tPart (tOp rPlus (tVar 4) (tC (.int 1)))) tNoPart)))) tNext)
    (tSeq (tIfS (tTest (tOp rEq (tVar 3) (tC (.int 1)))) (tRet (tM1 (rJoin K) (tC (.str " ")) (tOp rCat (L2.tSl (rSlL K) (tVar 2) tNoPart (tPart (tVar 4))) (L2.tSl (rSlL K) (tVar 2) (tPart (tOp rPlus (tVar 4) (tC (.int 1)))) tNoPart)))) tNext)
    (tSeq (tIfS (tTest (tOp rEq (tVar 3) (tC (.int 2)))) (tRet (tM1 (rJoin K) (tC (.str " ")) (tOp rCat (L2.tSl (rSlL K) (tVar 2) tNoPart (tPart (tOp rPlus (tVar 4) (tC (.int 1))))) (L2.tSl (rSlL K) (tVar 2) (tPart (tVar 4)) tNoPart)))) tNext)
    (tSeq (tIfS (tTest (tOp rEq (tVar 3) (tC (.int 3)))) (tRet (tOp rCatS (tOp rCatS (L2.tSl rSlS (tVar 1) tNoPart (tPart (tVar 5))) (tVar 7)) (L2.tSl rSlS (tVar 1) (tPart (tVar 5)) tNoPart))) tNext)
    (tSeq (tIfS (tTest (tOp rEq (tVar 3) (tC (.int 4)))) (tRet (tOp rCatS (tOp rCatS (L2.tSl rSlS (tVar 1) tNoPart (tPart (tVar 5))) (tVar 7)) (L2.tSl rSlS (tVar 1) (tPart (tOp rPlus (tVar 5) (tC (.int 1)))) tNoPart))) tNext)
    (tSeq (tIfS (tTest (tOp rEq (tVar 3) (tC (.int 5)))) (tSeq (tAsg (tLst (tCons (tC (.str "size r 1")) (tCons (tC (.str "size s 3/2")) (tCons (tC (.str "size s -1/2")) (tCons (tC (.str "size nobody 1")) (tCons (tC (.str "group a")) (tCons (tC (.str "group z")) (tCons (tC (.str "table r a b c d x zz z")) tNil)))))))) (gName 8))
    (tRet (tCl (sp__law_pick K) (tCons (tVar 0) (tCons (tOp rCat (tVar 8) (tLst (tCons (tC (.str "table q e f g h x zz")) (tCons (tC (.str "group b a")) (tCons (tC (.str "size r 01")) (tCons (tC (.str "size r 0")) (tCons (tC (.str "table r")) tNil))))))) tNil))))) tNext)
    (tSeq (tAsg (tLst (tCons (tC .non) (tCons (tC (.int 7)) (tCons (tTup (tCons (tVar 1) tNil)) (tCons (tLst (tCons (tVar 1) tNil)) (tCons (tC (.bl true)) (tCons (tDisp [((tVar 1), (tVar 1))]) (tCons (tTup tNil) tNil)))))))) (gName 9))
    (tRet (tIf (tTest (tOp rEq (tVar 3) (tC (.int 6)))) (tVar 1) (tCl (sp__law_pick K) (tCons (tVar 0) (tCons (tVar 9) tNil)))))))))))))))
abbrev nrSt (d : Addr) (z : Str) (p : Addr) (way : Int) (a b : Nat) (w s : Str) : L2.St := [some (.ref d), some (.str z), some (.ref p), some (.int way), some (.int (a : Nat)), some (.int (b : Nat)), some (.str w), some (.str s), none, none]
theorem way_if2 {σ : L2.St} {k n : Int} {H : Hp} {D : Ends} {t tz : TS} (hk : σ[3]? = some (some (.int k))) (h1 : ∀ H1, Ex H H1 → t { D with nx := tz D } σ H1) (h2 : ∀ H1, Ex H H1 → tz D σ H1) : tSeq (tIfS (tTest (tOp rEq (tVar 3) (tC (.int n)))) t tNext) tz D σ H :=
  q_when (et_test (ev_op (ev_var hk) ev_c (rv_eq rfl))) (fun _ H1 e1 => h1 H1 e1) fun _ H1 e1 => h2 H1 e1
theorem pure__law_other_line {K : PySem.W.Frag} {vs : List V} {H : Hp} {Q : VK} {E : XK} (h : sp__law_other_line K vs H Q E) : t__law_other_line K { nx := fun _ H' => Q .non H', rt := Q } (start ["_law_dice_here", "_law_line", "_law_words", "_law_way", "_law_at", "_law_spot", "_law_word", "_law_sign", "_law_some", "_law_odd"] vs) H := by
  obtain ⟨d, z, rfl, hD, hz, q⟩ := h
  have zl := hz.hi
  obtain ⟨w1, w2⟩ := near_ok hz
  refine q_parQ (EvL.q (el_split (ev_var rfl) ev_c rfl (by omega))) (fun H1 e1 => eq_rollC (ev_var rfl) (e1 _ _ hD) (by decide) (by decide)) fun x y H1 H2 e1 hx e2 hy => ?_
  obtain ⟨p, rfl, hp⟩ := hx
  obtain ⟨way, rfl, _⟩ := hy
  have hD2 := e2 _ _ (e1 _ _ hD)
  replace hp := e2 _ _ hp
  have e02 := e1.trans e2
  clear e1 e2
  have hlen : (wordsOf z).length ≤ 29 := by
    unfold wlen at w1
    omega
  have hpos : 1 ≤ (wordsOf z).length := by
    have := words_sum z
    cases hw : wordsOf z with
    | nil =>
      rw [hw] at this
      have h0 : wlen [] = 0 := rfl
      omega
    | cons a r => simp
  change H2 p = some (.lst ((wordsOf z).map V.str)) at hp
  generalize wordsOf z = ws at *
  have hl1 : ∀ {σ : L2.St} {H3 : Hp}, σ[2]? = some (some (.ref p)) → Ex H2 H3 → Ev (tCB (rLenS K) (tCons (tVar 2) tNil)) σ H3 (.int (ws.length : Int)) := fun hs e => by
    have := ev_len (K := K) (ev_var hs) (SqL.of (e _ _ hp))
    rwa [List.length_map] at this
  refine q_parQ (eq_roll (ev_var rfl) (hl1 rfl (Ex.refl _)) hD2 (by omega) (by omega)) (fun H3 e3 => eq_roll (ev_var rfl) (ev_lenS (ev_var rfl) (by omega)) (e3 _ _ hD2) (by have := hz.lo; omega) (by omega)) fun x y H3 H4 e3 hx e4 hy => ?_
  obtain ⟨at_, rfl, hat⟩ := nat_of hx
  obtain ⟨spot, rfl, hspot⟩ := nat_of hy
  have e04 := (e02.trans e3).trans e4
  have hD4 := e4 _ _ (e3 _ _ hD2)
  replace hp := e4 _ _ (e3 _ _ hp)
  clear hl1 hx hy e3 e4 hD2 e02 hD
  refine q_parQ (eq_pickL (l := wdC.map V.str) (ev_var rfl) hD4 (ew_new (el_consT (l := wdC) (by decide))) (by decide) (by decide)) (fun H5 e5 => eq_pickS (ev_var rfl) (e5 _ _ hD4) (by decide +kernel) (by decide +kernel)) fun x y H5 H6 e5 hx e6 hy => ?_
  obtain ⟨wd, hwd, rfl⟩ := List.mem_map.mp hx
  obtain ⟨d1, d2⟩ := wdC_ok wd hwd
  obtain ⟨sg, rfl, s1, s2⟩ := sgn_ok (by decide +kernel) hy
  have e06 := (e04.trans e5).trans e6
  have hD6 := e6 _ _ (e5 _ _ hD4)
  replace hp := e6 _ _ (e5 _ _ hp)
  clear hx hy e5 e6 hD4 e04 hwd
  have q : ∀ v H', Ex H6 H' → OutR K v H' → Q v H' := fun v H' e' h => q v H' (e06.trans e') h
  clear e06
  have sp := wlen_split ws at_
  have sp1 := wlen_split ws (at_ + 1)
  have dr := wlen_drop ws at_ (at_ + 1) (Nat.le_succ _)
  have subT : ∀ k w, w ∈ ws.take k → PyData.strOk w = true := fun k w hw => w2 w (List.mem_of_mem_take hw)
  have subD : ∀ k w, w ∈ ws.drop k → PyData.strOk w = true := fun k w hw => w2 w (List.mem_of_mem_drop hw)
  have retJ : ∀ {l : List Str} {te : TE} {σ : L2.St} {H7 : Hp} {nx : L2.St → Hp → Prop}, EvL te σ H7 (l.map V.str) → wlen l ≤ 60 → (∀ w ∈ l, PyData.strOk w = true) → Ex H6 H7 → tRet (tM1 (rJoin K) (tC (.str " ")) te) { nx := nx, rt := Q } σ H7 := fun {l te σ H7 nx} hl h1 h2 e7 => s_ret (ev_joinN ev_c hl (by
    unfold wlen at h1
    have : (" " : Str).length = 1 := rfl
    rw [this]
    omega)) fun H8 e8 => q _ H8 (e7.trans e8) (out_s _ (join_ok h1 h2))
  refine way_if2 rfl (fun H7 e7 => ?_) fun H7 e7 => ?_
  · have hl : EvL (tOp rCat (tOp rCat (L2.tSl (rSlL K) (tVar 2) tNoPart (tPart (tVar 4))) (tLst (tCons (tVar 6) tNil))) (L2.tSl (rSlL K) (tVar 2) (tPart (tOp rPlus (tVar 4) (tC (.int 1)))) tNoPart)) (nrSt d z p way at_ spot wd sg) H7 ((ws.take at_ ++ [wd] ++ ws.drop (at_ + 1)).map V.str) := by
      rw [List.map_append, List.map_append, List.map_take, List.map_drop]
      exact el_cat (ew_new (el_cat (ew_new (el_take (ev_var rfl) (e7 _ _ hp) (ev_var rfl))) (ew_new (el_lst (ea_cons (ev_var rfl) ea_nil) (Nat.le_of_ble_eq_true rfl))) (by simp only [List.length_take, List.length_map, List.length_cons, List.length_nil]; omega))) (ew_new (el_drop (ev_var rfl) (e7 _ _ hp) (ev_succ (ev_var rfl)))) (by simp only [List.length_append, List.length_take, List.length_drop, List.length_map, List.length_cons, List.length_nil]; omega)
    refine retJ hl ?_ (fun w hw => ?_) e7
    · rw [wlen_app, wlen_app, wlen_one]
      omega
    · rcases List.mem_append.mp hw with h | h
      · rcases List.mem_append.mp h with h | h
        · exact subT _ w h
        · rw [List.mem_singleton.mp h]
          exact d2
      · exact subD _ w h
  refine way_if2 rfl (fun H8 e8 => ?_) fun H8 e8 => ?_
  · have hl : EvL (tOp rCat (L2.tSl (rSlL K) (tVar 2) tNoPart (tPart (tVar 4))) (L2.tSl (rSlL K) (tVar 2) (tPart (tOp rPlus (tVar 4) (tC (.int 1)))) tNoPart)) (nrSt d z p way at_ spot wd sg) H8 ((ws.take at_ ++ ws.drop (at_ + 1)).map V.str) := by
      rw [List.map_append, List.map_take, List.map_drop]
      exact el_cat (ew_new (el_take (ev_var rfl) (e8 _ _ (e7 _ _ hp)) (ev_var rfl))) (ew_new (el_drop (ev_var rfl) (e8 _ _ (e7 _ _ hp)) (ev_succ (ev_var rfl)))) (by simp only [List.length_take, List.length_drop, List.length_map]; omega)
    refine retJ hl ?_ (fun w hw => ?_) (e7.trans e8)
    · rw [wlen_app]
      omega
    · rcases List.mem_append.mp hw with h | h
      · exact subT _ w h
      · exact subD _ w h
  have e8' := e7.trans e8
  refine way_if2 rfl (fun H9 e9 => ?_) fun H9 e9 => ?_
  · have hl : EvL (tOp rCat (L2.tSl (rSlL K) (tVar 2) tNoPart (tPart (tOp rPlus (tVar 4) (tC (.int 1))))) (L2.tSl (rSlL K) (tVar 2) (tPart (tVar 4)) tNoPart)) (nrSt d z p way at_ spot wd sg) H9 ((ws.take (at_ + 1) ++ ws.drop at_).map V.str) := by
      rw [List.map_append, List.map_take, List.map_drop]
      exact el_cat (ew_new (el_take (ev_var rfl) (e9 _ _ (e8' _ _ hp)) (ev_succ (ev_var rfl)))) (ew_new (el_drop (ev_var rfl) (e9 _ _ (e8' _ _ hp)) (ev_var rfl))) (by simp only [List.length_take, List.length_drop, List.length_map]; omega)
    refine retJ hl ?_ (fun w hw => ?_) (e8'.trans e9)
    · rw [wlen_app]
      omega
    · rcases List.mem_append.mp hw with h | h
      · exact subT _ w h
      · exact subD _ w h
  have e9' := e8'.trans e9
  have c1 := cut_le z none (some (spot : Int))
  have c2 := cut_le z (some (spot : Int)) none
  have c3 := cut_le z (some ((spot + 1 : Nat) : Int)) none
  refine way_if2 rfl (fun H10 e10 => ?_) fun H10 e10 => ?_
  · refine s_ret (ev_op (ev_op (ev_slS (ev_var rfl) eo_none (eo_some (ev_var rfl)) (by omega)) (ev_var rfl) (rv_catS (by omega))) (ev_slS (ev_var rfl) (eo_some (ev_var rfl)) eo_none (by omega)) (rv_catS (by rw [len_app]; omega))) fun H11 e11 => q _ H11 ((e9'.trans e10).trans e11) (out_s _ ⟨by rw [len_app, len_app]; omega, app_ok (app_ok (cut_ok _ _ hz.ok) s2) (cut_ok _ _ hz.ok)⟩)
  have e10' := e9'.trans e10
  refine way_if2 rfl (fun H11 e11 => ?_) fun H11 e11 => ?_
  · refine s_ret (ev_op (ev_op (ev_slS (ev_var rfl) eo_none (eo_some (ev_var rfl)) (by omega)) (ev_var rfl) (rv_catS (by omega))) (ev_slS (ev_var rfl) (eo_some (ev_succ (ev_var rfl))) eo_none (by omega)) (rv_catS (by rw [len_app]; omega))) fun H12 e12 => q _ H12 ((e10'.trans e11).trans e12) (out_s _ ⟨by rw [len_app, len_app]; omega, app_ok (app_ok (cut_ok _ _ hz.ok) s2) (cut_ok _ _ hz.ok)⟩)
  have e11' := e10'.trans e11
  refine way_if2 rfl (fun H12 e12 => ?_) fun H12 e12 => ?_
  · have e12' := e11'.trans e12
    refine q_asgL (el_consT (l := lnC) (by decide)) fun r H13 hr e13 hx => ?_
    refine s_retQ9 (eq_pickL (l := (lnC ++ lnC2).map V.str) (ev_var rfl) (e13 _ _ (e12' _ _ hD6)) (ew_new (by
      rw [List.map_append]
      exact el_cat (ew_old (ev_var rfl) hx) (ew_new (el_consT (l := lnC2) (by decide))) (by decide))) (by decide) (by decide)) fun v H14 e14 hv => ?_
    obtain ⟨w, hw, rfl⟩ := List.mem_map.mp hv
    exact q _ H14 ((e12'.trans e13).trans e14) (out_s _ (lnC_ok w hw))
  have e12' := e11'.trans e12
  refine q_asgLQ (elq_lst (R := OutR K) outR_st (ear_cons outR_st (eq_cR out_non) (ear_cons outR_st (eq_cR (out_int 7)) (ear_cons outR_st (eq_tupR (ea_cons (ev_var rfl) ea_nil) (Nat.le_of_ble_eq_true rfl)) (ear_cons outR_st (eq_lstR (ea_cons (ev_var rfl) ea_nil) (Nat.le_of_ble_eq_true rfl)) (ear_cons outR_st (eq_cR (out_bl true)) (ear_cons outR_st (eq_disp1 fun _ _ => ev_var rfl) (ear_cons outR_st (eq_tupR ea_nil (Nat.le_of_ble_eq_true rfl)) ear_nil))))))) (by decide)) fun r ys H13 hr e13 hx hP => ?_
  have e13' := e12'.trans e13
  refine (et_test (ev_op (ev_var rfl) ev_c (rv_eq rfl))) H13 (Ex.refl _) _ fun H14 e14 => ?_
  split
  · exact ev_var rfl H14 (Ex.refl _) _ fun H15 e15 => q _ H15 ((e13'.trans e14).trans e15) (out_s _ (lnOk_of hz))
  · refine eq_pickW (K := K) outR_st (ev_var rfl) (e14 _ _ (e13' _ _ hD6)) (fun H15 e15 Q' q' => ev_var rfl H15 e15 _ fun H16 e16 => q' r ys H16 e16 (e16 _ _ (e15 _ _ (e14 _ _ hx))) ⟨by rw [hP.1]; decide, by rw [hP.1]; decide, fun v hv => outR_st _ _ _ ((e14.trans e15).trans e16) (hP.2 v hv)⟩) H14 (Ex.refl _) _ fun v H15 e15 hv => q _ H15 ((e13'.trans e14).trans e15) hv
theorem sc__law_other_line : FnScope ["_law_dice_here", "_law_line", "_law_words", "_law_way", "_law_at", "_law_spot", "_law_word", "_law_sign", "_law_some", "_law_odd"] ["_law_dice_here", "_law_line"] (defScope s__law_other_line) := ⟨rfl, rfl, rfl, by decide +kernel, rfl, by decide +kernel, by decide +kernel⟩
theorem d__law_other_line {P : Program} {w : World} {K : PySem.W.Frag} {mg : Str → Option Value} {base : Heap} (T : Txt K mg) {f : Addr} {cdv : Value} {A : Around} {outer : List Env} {s : Shared} {H : Hp} {E : XK} (hr : Room 3 (A.deeper (envOfC "_law_other_line" (defScope s__law_other_line) s.heap.objs.size f cdv))) :
    PSs (cxOf CX0 P w K mg base ["_law_dice_here", "_law_line", "_law_words", "_law_way", "_law_at", "_law_spot", "_law_word", "_law_sign", "_law_some", "_law_odd"] "_law_other_line" (defScope s__law_other_line) f cdv A outer s H E).nox (defBody s__law_other_line) (t__law_other_line K) := by
  have hu := hu_of hr
  exact (pss_cons (ps_par (i := 2) (j := 3) (by rfl) sc__law_other_line.nd rfl rfl (by decide) rfl rfl (pa_cons (pe_split (pv 1) pe_str) (pa_cons (pe_clD (cl__law_roll T) hr (pa_cons (pv 0) (pa_cons pe_int pa_nil))) pa_nil)) (by rfl))
      (pss_cons (ps_par (i := 4) (j := 5) (by rfl) sc__law_other_line.nd rfl rfl (by decide) rfl rfl (pa_cons (pe_clD (cl__law_roll T) hr (pa_cons (pv 0) (pa_cons (pe_callB call_len_seq (by rfl) T.b_len (by decide +kernel) (pa_cons (pv 2) pa_nil)) pa_nil))) (pa_cons (pe_clD (cl__law_roll T) hr (pa_cons (pv 0) (pa_cons (pe_callB call_len_str (by rfl) T.b_len (by decide +kernel) (pa_cons (pv 1) pa_nil)) pa_nil))) pa_nil)) (by rfl))
      (pss_cons (ps_par (i := 6) (j := 7) (by rfl) sc__law_other_line.nd rfl rfl (by decide) rfl rfl (pa_cons (pe_cl (cl__law_pick T) hr (pa_cons (pv 0) (pa_cons (pe_lst (pa_cons pe_str (pa_cons pe_str (pa_cons pe_str (pa_cons pe_str (pa_cons pe_str (pa_cons pe_str (pa_cons pe_str (pa_cons pe_str (pa_cons pe_str pa_nil)))))))))) pa_nil))) (pa_cons (pe_cl (cl__law_pick T) hr (pa_cons (pv 0) (pa_cons pe_str pa_nil))) pa_nil)) (by rfl))
      (pss_cons (ps_if (pt_cmpR op_eq (pv 3) pe_int (nomark _)) (pss_one (ps_ret (pe_join pe_str (pe_op op_cat (pe_op op_cat (pe_slice sl_list (pv 2) po_none (po_some (pv 4))) (pe_lst (pa_cons (pv 6) pa_nil))) (pe_slice sl_list (pv 2) (po_some (pe_op op_add (pv 4) pe_int)) po_none))))) pss_nil)
      (pss_cons (ps_if (pt_cmpR op_eq (pv 3) pe_int (nomark _)) (pss_one (ps_ret (pe_join pe_str (pe_op op_cat (pe_slice sl_list (pv 2) po_none (po_some (pv 4))) (pe_slice sl_list (pv 2) (po_some (pe_op op_add (pv 4) pe_int)) po_none))))) pss_nil)
      (pss_cons (ps_if (pt_cmpR op_eq (pv 3) pe_int (nomark _)) (pss_one (ps_ret (pe_join pe_str (pe_op op_cat (pe_slice sl_list (pv 2) po_none (po_some (pe_op op_add (pv 4) pe_int))) (pe_slice sl_list (pv 2) (po_some (pv 4)) po_none))))) pss_nil)
      (pss_cons (ps_if (pt_cmpR op_eq (pv 3) pe_int (nomark _)) (pss_one (ps_ret (pe_op op_add_str (pe_op op_add_str (pe_slice sl_str (pv 1) po_none (po_some (pv 5))) (pv 7)) (pe_slice sl_str (pv 1) (po_some (pv 5)) po_none)))) pss_nil)
      (pss_cons (ps_if (pt_cmpR op_eq (pv 3) pe_int (nomark _)) (pss_one (ps_ret (pe_op op_add_str (pe_op op_add_str (pe_slice sl_str (pv 1) po_none (po_some (pv 5))) (pv 7)) (pe_slice sl_str (pv 1) (po_some (pe_op op_add (pv 5) pe_int)) po_none)))) pss_nil)
      (pss_cons (ps_if (pt_cmpR op_eq (pv 3) pe_int (nomark _)) (pss_cons (ps_asg (pe_lst (pa_cons pe_str (pa_cons pe_str (pa_cons pe_str (pa_cons pe_str (pa_cons pe_str (pa_cons pe_str (pa_cons pe_str pa_nil)))))))) (pg_name (i := 8) sc__law_other_line.nd rfl (Or.inl rfl)))
      (pss_one (ps_ret (pe_cl (cl__law_pick T) hr (pa_cons (pv 0) (pa_cons (pe_op op_cat (pv 8) (pe_lst (pa_cons pe_str (pa_cons pe_str (pa_cons pe_str (pa_cons pe_str (pa_cons pe_str pa_nil))))))) pa_nil)))))) pss_nil)
      (pss_cons (ps_asg (pe_lst (pa_cons pe_non (pa_cons pe_int (pa_cons (pe_tup (pa_cons (pv 1) pa_nil)) (pa_cons (pe_lst (pa_cons (pv 1) pa_nil)) (pa_cons pe_bl (pa_cons (pe_disp (pps_cons (pv 1) (pv 1) pps_nil) (by rfl) (by rfl) (fun z => by cases z) (by decide)) (pa_cons (pe_tup pa_nil) pa_nil)))))))) (pg_name (i := 9) sc__law_other_line.nd rfl (Or.inl rfl)))
      (pss_one (ps_ret (pe_ifExp (pt_cmpR op_eq (pv 3) pe_int (nomark _)) (pv 1) (pe_cl (cl__law_pick T) hr (pa_cons (pv 0) (pa_cons (pv 9) pa_nil))))))))))))))))
theorem ok__law_other_line {P : Program} {w : World} {K : PySem.W.Frag} {mg : Str → Option Value} {base : Heap} (T : Txt K mg) : FnOk P w K mg base CX0 4 T.l_other_line.f T.l_other_line.fd ["_law_dice_here", "_law_line"] (sp__law_other_line K) :=
  ok0 T.l_other_line.F sc__law_other_line len__law_other_line fun cdv A outer s H vs Q E hr h => ⟨t__law_other_line K, d__law_other_line T hr, pure__law_other_line h⟩
theorem cl__law_other_line {P : Program} {w : World} {K : PySem.W.Frag} {mg : Str → Option Value} {base : Heap} (T : Txt K mg) : Cl P w K mg base 4 "_law_other_line" (sp__law_other_line K) := cl_of T.l_other_line (ok__law_other_line T) fun _ _ _ _ _ _ us hl => match us, hl with | [_, _], _ => rfl

end K08

namespace K08
open PySem PySem.Spec PyProof.Rows L2 Evl
/-! ### _law_bent -/
def sp__law_bent (K : PySem.W.Frag) : Sp := fun vs H Q _ => ∃ (d p : Addr) (ls : List Str), vs = [.ref d, .ref p] ∧ H d = some (DiceO d) ∧ H p = some (.lst (ls.map V.str)) ∧ (∀ z ∈ ls, LineOk z) ∧ 1 ≤ ls.length ∧ ls.length ≤ 7 ∧ ∀ r H' ys, Ex H H' → H' r = some (.lst ys) → ys.length ≤ 9 → (∀ v ∈ ys, OutR K v H') → Q (.ref r) H'
theorem len__law_bent {K : PySem.W.Frag} : ∀ vs H Q E, sp__law_bent K vs H Q E → vs.length = 2 := fun vs H Q E ⟨_, _, _, e, _⟩ => by rw [e]; rfl
section
variable {K : PySem.W.Frag} {σ : L2.St} {H : Hp} {td te : TE} {d : Addr} {D : Ends} {tu tz : TS} {j : Nat}
theorem eq_other (hd : Ev td σ H (.ref d)) (hD : H d = some (DiceO d)) (hl : EvQ te σ H (fun v _ => ∃ z, v = .str z ∧ LineOk z)) : EvQ (tCl (sp__law_other_line K) (tCons td (tCons te tNil))) σ H (OutR K) := fun H1 e Q q =>
  hd H1 e _ fun H2 e2 => hl H2 (e.trans e2) _ fun v H3 e3 hv => by
    obtain ⟨z, rfl, hz⟩ := hv
    exact ⟨d, z, rfl, e3 _ _ (e2 _ _ (e _ _ hD)), hz, fun v H' e' ho => q v H' ((e2.trans e3).trans e') ho⟩
theorem q_forRQ {m : Int} (h : EvQ te σ H (IntTo m)) (k : ∀ (n : Nat) H1, Ex H H1 → (n : Int) < m → tSeq (tFor (iRng1 (tCons (tC (.int (n : Nat))) tNil)) (gName j) tu) tz D σ H1) : tSeq (tFor (iRng1 (tCons te tNil)) (gName j) tu) tz D σ H :=
  h H (Ex.refl H) _ fun v H1 e1 hv => by
    obtain ⟨n, rfl, hn⟩ := nat_of hv
    exact k n H1 e1 hn
theorem eq_one_roll (hd : Ev td σ H (.ref d)) (hD : H d = some (DiceO d)) : EvQ (tOp rPlus (tC (.int 1)) (tClD sp__law_roll (tCons td (tCons (tC (.int 2)) tNil)))) σ H (IntTo 3) := fun H1 e Q q => by
  show tClD sp__law_roll (tCons td (tCons (tC (.int 2)) tNil)) σ H1 fun b H2 => rPlus (.int 1) b H2 Q
  refine eq_rollC (n := 2) hd hD (by decide) (by decide) H1 e _ fun v H2 e2 hv => ?_
  obtain ⟨r, rfl, r0, r1⟩ := hv
  exact ⟨1, r, rfl, rfl, q _ H2 e2 ⟨1 + r, rfl, by omega, by omega⟩⟩
end
def t__law_bent (K : PySem.W.Frag) : TS :=
  (tSeq (tAsg (tCB (rListS K) (tCons (tVar 1) tNil)) (gName 2))
    (tSeq (tFor (iRng1 (tCons (tOp rPlus (tC (.int 1)) (tClD sp__law_roll (tCons (tVar 0) (tCons (tC (.int 2)) tNil)))) tNil)) (gName 3)
    (tSeq (tPar 5 6 (tCons (tClD sp__law_roll (tCons (tVar 0) (tCons (tCB (rLenS K) (tCons (tVar 2) tNil)) tNil))) (tCons (tClD sp__law_roll (tCons (tVar 0) (tCons (tC (.int 3)) tNil))) tNil)))
    (tSeq (tAsg (tCl (sp__law_other_line K) (tCons (tVar 0) (tCons (tCl (sp__law_pick K) (tCons (tVar 0) (tCons (tVar 1) tNil))) tNil))) (gName 4))
    (tIfS (tAnd (tTest (tOp rEq (tVar 6) (tC (.int 0)))) (tTest (tOp rGtI (tCB (rLenS K) (tCons (tVar 2) tNil)) (tC (.int 1))))) (tAsg (tOp rCat (L2.tSl (rSlL K) (tVar 2) tNoPart (tPart (tVar 5))) (L2.tSl (rSlL K) (tVar 2) (tPart (tOp rPlus (tVar 5) (tC (.int 1)))) tNoPart)) (gName 2)) (tAsg (tOp rCat (tOp rCat (L2.tSl (rSlL K) (tVar 2) tNoPart (tPart (tVar 5))) (tLst (tCons (tVar 4) tNil))) (L2.tSl (rSlL K) (tVar 2) (tPart (tOp rPlus (tVar 5) (tCB rInt1 (tCons (tOp rEq (tVar 6) (tC (.int 1))) tNil)))) tNoPart)) (gName 2))))))
    (tRet (tVar 2))))
abbrev btSt (d p q : Addr) (x3 x4 x5 x6 : Option V) : L2.St := [some (.ref d), some (.ref p), some (.ref q), x3, x4, x5, x6]
theorem pure__law_bent {K : PySem.W.Frag} {vs : List V} {H : Hp} {Q : VK} {E : XK} (h : sp__law_bent K vs H Q E) : t__law_bent K { nx := fun _ H' => Q .non H', rt := Q } (start ["_law_dice_here", "_law_lines_here", "_law_found", "_law_turn", "_law_other", "_law_at", "_law_way"] vs) H := by
  obtain ⟨d, p, ls, rfl, hD, hp, hls, l1, l7, q⟩ := h
  refine q_asgL (el_list (ev_var rfl) (SqL.of hp)) fun f H1 hf e1 hx => ?_
  refine q_forRQ (eq_one_roll (ev_var rfl) (e1 _ _ hD)) fun n H2 e2 hn => ?_
  have e02 := e1.trans e2
  refine q_forR1 (n := (n : Int)) (ea_cons ev_c ea_nil) (by omega) (fun i σ' H' => ∃ (x3 x4 x5 x6 : Option V) (r : Addr) (ys : List V), σ' = btSt d p r x3 x4 x5 x6 ∧ Ex H H' ∧ H' r = some (.lst ys) ∧ 1 ≤ ys.length ∧ ys.length ≤ 7 + i ∧ ∀ v ∈ ys, OutR K v H')
    (fun H3 e3 => ⟨none, none, none, none, f, _, rfl, e02.trans e3, e3 _ _ (e2 _ _ hx), by rw [List.length_map]; exact l1, by rw [List.length_map]; omega, fun v hv => ?_⟩) (fun i σ' H' hi p => ?_) (fun σ' H' p => ?_)
  · obtain ⟨z, hz, rfl⟩ := List.mem_map.mp hv
    exact out_s _ (lnOk_of (hls z hz))
  · obtain ⟨x3, x4, x5, x6, r, ys, rfl, e', hr, y1, y2, hys⟩ := p
    have hD' := e' _ _ hD
    refine q_parQ (eq_roll (ev_var rfl) (ev_len (K := K) (ev_var rfl) (SqL.of hr)) hD' (by omega) (by omega)) (fun H3 e3 => eq_rollC (ev_var rfl) (e3 _ _ hD') (by decide) (by decide)) fun x y H3 H4 e3 hx e4 hy => ?_
    obtain ⟨a, rfl, ha⟩ := nat_of hx
    obtain ⟨way, rfl, _⟩ := hy
    have e34 := e3.trans e4
    refine q_asgQ (eq_other (ev_var rfl) (e34 _ _ hD') (fun H5 e5 Q' q' => eq_pickL (K := K) (l := ls.map V.str) (ev_var rfl) (e34 _ _ hD') (ew_old (ev_var rfl) (e34 _ _ (e' _ _ hp))) (by rw [List.length_map]; exact l1) (by rw [List.length_map]; omega) H5 e5 Q' fun v H6 e6 hv => q' v H6 e6 (by
      obtain ⟨z, hz, rfl⟩ := List.mem_map.mp hv
      exact ⟨z, rfl, hls z hz⟩))) fun o H5 e5 ho => ?_
    have e35 := e34.trans e5
    have hr5 := e35 _ _ hr
    have hys5 : ∀ v ∈ ys, OutR K v H5 := fun v hv => outR_st _ _ _ e35 (hys v hv)
    have ht : EvT (tAnd (tTest (tOp rEq (tVar 6) (tC (.int 0)))) (tTest (tOp rGtI (tCB (rLenS K) (tCons (tVar 2) tNil)) (tC (.int 1))))) (btSt d p r (some (.int (i : Nat))) (some o) (some (.int (a : Nat))) (some (.int way))) H5 (decide (V.int way = V.int 0) && decide ((1 : Int) < (ys.length : Int))) :=
      et_and (et_test (ev_op (ev_var rfl) ev_c (rv_eq rfl))) fun _ => et_test (ev_op (ev_len (ev_var rfl) (SqL.of hr5)) ev_c rv_I0)
    refine s_if ht (fun hb H6 e6 => ?_) (fun hb H6 e6 => ?_)
    · rw [Bool.and_eq_true, decide_eq_true_eq, decide_eq_true_eq] at hb
      have hr6 := e6 _ _ hr5
      refine s_asgL (el_cat (ew_new (el_take (ev_var rfl) hr6 (ev_var rfl))) (ew_new (el_drop (ev_var rfl) hr6 (ev_succ (ev_var rfl)))) (by simp only [List.length_take, List.length_drop]; omega)) fun r' H7 hr' e7 hx7 => ?_
      refine ⟨_, _, _, _, r', _, rfl, ((e'.trans e35).trans e6).trans e7, hx7, ?_, ?_, fun v hv => ?_⟩
      · simp only [List.length_append, List.length_take, List.length_drop]; omega
      · simp only [List.length_append, List.length_take, List.length_drop]; omega
      · refine outR_st _ _ _ (e6.trans e7) (hys5 v ?_)
        rcases List.mem_append.mp hv with h | h
        · exact List.mem_of_mem_take h
        · exact List.mem_of_mem_drop h
    · have hr6 := e6 _ _ hr5
      have hk : ∃ k : Nat, (k = a ∨ k = a + 1) ∧ Ev (tOp rPlus (tVar 5) (tCB rInt1 (tCons (tOp rEq (tVar 6) (tC (.int 1))) tNil))) (btSt d p r (some (.int (i : Nat))) (some o) (some (.int (a : Nat))) (some (.int way))) H6 (.int (k : Nat)) := by
        have hv := ev_op (r := rPlus) (σ := btSt d p r (some (.int (i : Nat))) (some o) (some (.int (a : Nat))) (some (.int way))) (H := H6) (ev_var (i := 5) rfl) (ev_intB (ev_op (ev_var (i := 6) rfl) (ev_c (v := .int 1)) (rv_eq rfl))) rv_I0
        by_cases hw : V.int way = V.int 1
        · rw [decide_eq_true hw] at hv
          exact ⟨a + 1, .inr rfl, hv⟩
        · rw [decide_eq_false hw] at hv
          exact ⟨a, .inl rfl, ev_is hv (by simp)⟩
      obtain ⟨k, hk, hv⟩ := hk
      refine s_asgL (el_cat (ew_new (el_cat (ew_new (el_take (ev_var rfl) hr6 (ev_var rfl))) (ew_new (el_lst (ea_cons (ev_var rfl) ea_nil) (Nat.le_of_ble_eq_true rfl))) (by simp only [List.length_take, List.length_cons, List.length_nil]; omega))) (ew_new (el_drop (ev_var rfl) hr6 hv)) (by simp only [List.length_append, List.length_take, List.length_drop, List.length_cons, List.length_nil]; omega)) fun r' H7 hr' e7 hx7 => ?_
      refine ⟨_, _, _, _, r', _, rfl, ((e'.trans e35).trans e6).trans e7, hx7, ?_, ?_, fun v hv => ?_⟩
      · simp only [List.length_append, List.length_take, List.length_drop, List.length_cons, List.length_nil]; omega
      · simp only [List.length_append, List.length_take, List.length_drop, List.length_cons, List.length_nil]
        rcases hk with rfl | rfl <;> omega
      · refine outR_st _ _ _ (e6.trans e7) ?_
        rcases List.mem_append.mp hv with h | h
        · rcases List.mem_append.mp h with h | h
          · exact hys5 v (List.mem_of_mem_take h)
          · rw [List.mem_singleton.mp h]
            exact ho
        · exact hys5 v (List.mem_of_mem_drop h)
  · obtain ⟨x3, x4, x5, x6, r, ys, rfl, e', hr, y1, y2, hys⟩ := p
    exact s_ret (ev_var rfl) fun H3 e3 => q r H3 ys (e'.trans e3) (e3 _ _ hr) (by omega) fun v hv => outR_st _ _ _ e3 (hys v hv)
theorem sc__law_bent : FnScope ["_law_dice_here", "_law_lines_here", "_law_found", "_law_turn", "_law_other", "_law_at", "_law_way"] ["_law_dice_here", "_law_lines_here"] (defScope s__law_bent) := ⟨rfl, rfl, rfl, by decide +kernel, rfl, by decide +kernel, by decide +kernel⟩
theorem d__law_bent {P : Program} {w : World} {K : PySem.W.Frag} {mg : Str → Option Value} {base : Heap} (T : Txt K mg) {f : Addr} {cdv : Value} {A : Around} {outer : List Env} {s : Shared} {H : Hp} {E : XK} (hr : Room 4 (A.deeper (envOfC "_law_bent" (defScope s__law_bent) s.heap.objs.size f cdv))) :
    PSs (cxOf CX0 P w K mg base ["_law_dice_here", "_law_lines_here", "_law_found", "_law_turn", "_law_other", "_law_at", "_law_way"] "_law_bent" (defScope s__law_bent) f cdv A outer s H E).nox (defBody s__law_bent) (t__law_bent K) := by
  have hu := hu_of hr
  exact (pss_cons (ps_asg (pe_callTy call_list_of (by rfl) T.b_list (by decide +kernel) (pa_cons (pv 1) pa_nil)) (pg_name (i := 2) sc__law_bent.nd rfl (Or.inl rfl)))
      (pss_cons (ps_for PassesOwn.never rfl (pi_range1 rfl T.b_range (pa_cons (pe_op op_add pe_int (pe_clD (cl__law_roll T) hr (pa_cons (pv 0) (pa_cons pe_int pa_nil)))) pa_nil)) (pg_name (i := 3) sc__law_bent.nd rfl (Or.inl rfl))
      (pss_cons (ps_par (i := 5) (j := 6) (by rfl) sc__law_bent.nd rfl rfl (by decide) rfl rfl (pa_cons (pe_clD (cl__law_roll T) hr (pa_cons (pv 0) (pa_cons (pe_callB call_len_seq (by rfl) T.b_len (by decide +kernel) (pa_cons (pv 2) pa_nil)) pa_nil))) (pa_cons (pe_clD (cl__law_roll T) hr (pa_cons (pv 0) (pa_cons pe_int pa_nil))) pa_nil)) (by rfl))
      (pss_cons (ps_asg (pe_cl (cl__law_other_line T) hr (pa_cons (pv 0) (pa_cons (pe_cl (cl__law_pick T) hr (pa_cons (pv 0) (pa_cons (pv 1) pa_nil))) pa_nil))) (pg_name (i := 4) sc__law_bent.nd rfl (Or.inl rfl)))
      (pss_one (ps_if (PW.pt (pw_and (pt_cmpR op_eq (pv 6) pe_int (nomark _)) (pw_and1 (pt_cmpR op_gt (pe_callB call_len_seq (by rfl) T.b_len (by decide +kernel) (pa_cons (pv 2) pa_nil)) pe_int (nomark _))))) (pss_one (ps_asg (pe_op op_cat (pe_slice sl_list (pv 2) po_none (po_some (pv 5))) (pe_slice sl_list (pv 2) (po_some (pe_op op_add (pv 5) pe_int)) po_none)) (pg_name (i := 2) sc__law_bent.nd rfl (Or.inl rfl)))) (pss_one (ps_asg (pe_op op_cat (pe_op op_cat (pe_slice sl_list (pv 2) po_none (po_some (pv 5))) (pe_lst (pa_cons (pv 4) pa_nil))) (pe_slice sl_list (pv 2) (po_some (pe_op op_add (pv 5) (pe_callTy call_int1 (by rfl) T.b_int (by decide +kernel) (pa_cons (pe_cmpR op_eq (pv 6) pe_int (nomark _)) pa_nil)))) po_none)) (pg_name (i := 2) sc__law_bent.nd rfl (Or.inl rfl)))))))))
      (pss_one (ps_ret (pv 2)))))
theorem ok__law_bent {P : Program} {w : World} {K : PySem.W.Frag} {mg : Str → Option Value} {base : Heap} (T : Txt K mg) : FnOk P w K mg base CX0 5 T.l_bent.f T.l_bent.fd ["_law_dice_here", "_law_lines_here"] (sp__law_bent K) :=
  ok0 T.l_bent.F sc__law_bent len__law_bent fun cdv A outer s H vs Q E hr h => ⟨t__law_bent K, d__law_bent T hr, pure__law_bent h⟩
theorem cl__law_bent {P : Program} {w : World} {K : PySem.W.Frag} {mg : Str → Option Value} {base : Heap} (T : Txt K mg) : Cl P w K mg base 5 "_law_bent" (sp__law_bent K) := cl_of T.l_bent (ok__law_bent T) fun _ _ _ _ _ _ us hl => match us, hl with | [_, _], _ => rfl
theorem outs_ln {K : PySem.W.Frag} {H : Hp} : ∀ {ys : List V}, (∀ v ∈ ys, OutR K v H) → ∃ os, LnsR K (dt H) ys os
  | [], _ => ⟨[], .nil⟩
  | v :: r, h => by
    obtain ⟨o, ho⟩ := h v List.mem_cons_self
    obtain ⟨os, hos⟩ := outs_ln (ys := r) fun w hw => h w (List.mem_cons_of_mem _ hw)
    exact ⟨o :: os, .cons ho hos⟩

end K08

namespace K08
open PySem PySem.Spec PyProof.Rows L2 Evl
/-! ### what is told as data; its repr -/
theorem take_ok : ∀ (os : List (Option Str)) {s s' : QS} {k : Nat}, LinesOk os → QsOk s k → takeAll s k os = .inr s' → QsOk s' (k + os.length)
  | [], s, s', k, _, h, e => by
    cases e
    exact h
  | o :: r, s, s', k, hO, h, e => by
    rw [takeAll] at e
    cases hs : stepLine s o with
    | none => rw [hs] at e; cases e
    | some t =>
      rw [hs] at e
      have h1 := stepLine_ok h (fun z hz => hO z (by rw [hz]; exact List.mem_cons_self)) hs
      have h2 := take_ok r (fun z hz => hO z (List.mem_cons_of_mem _ hz)) h1 e
      rw [List.length_cons]
      exact h2.mono (by omega)
theorem toS_ok (p : Int) : PyData.strOk (toS p) = true := strOk_iff.mpr fun c hc => by
  rw [tl_toS] at hc
  split at hc
  · rcases List.mem_cons.mp hc with rfl | hc
    · decide
    · have := numL_dig hc
      omega
  · have := numL_dig hc
    omega
theorem ratText_ok (p q : Int) : PyData.strOk (ratText p q) = true := by
  unfold ratText
  split
  · exact toS_ok p
  · exact app_ok (toS_ok p) (app_ok (by decide +kernel) (toS_ok q))
theorem join_fine {l : List Str} {n : Nat} (hl : l.length ≤ n) (hs : ∀ w ∈ l, w.length ≤ 8 ∧ PyData.strOk w = true) : (Txt.join " " l).length ≤ 9 * n ∧ PyData.strOk (Txt.join " " l) = true := by
  have e : TL.tl (Txt.join " " l) = TL.joinL [32] (l.map TL.tl) := by rw [TL.join_eq, TL.tl_join, tl_space]
  obtain ⟨h1, h2⟩ := joinL_facts (l.map TL.tl)
  have he : ((l.map TL.tl).map List.length) = l.map (·.length) := by
    rw [List.map_map]
    exact List.map_congr_left fun w _ => (tl_len w).symm
  rw [he, List.length_map] at h1
  have h3 := sum_le (k := 8) fun z hz => (hs z hz).1
  refine ⟨by rw [tl_len, e]; omega, strOk_iff.mpr fun c hc => ?_⟩
  rw [e] at hc
  rcases h2 c hc with rfl | ⟨p, hp, hc⟩
  · decide
  · obtain ⟨w, hw, rfl⟩ := List.mem_map.mp hp
    exact strOk_iff.mp (hs w hw).2 c hc
theorem areNames_all {l : List Str} (h : areNames l = true) : ∀ w ∈ l, w.length ≤ 8 ∧ PyData.strOk w = true := fun w hw => by
  unfold areNames at h
  rw [Bool.and_eq_true, List.all_eq_true] at h
  exact isName_ok (h.1 w hw)
theorem six_words : ("table" : Str).length ≤ 8 ∧ PyData.strOk ("table" : Str) = true := ⟨by decide, by decide +kernel⟩
theorem grp_words : ("group" : Str).length ≤ 8 ∧ PyData.strOk ("group" : Str) = true := ⟨by decide, by decide +kernel⟩
theorem size_words : PyData.strOk ("size" : Str) = true ∧ PyData.strOk (" " : Str) = true := ⟨by decide +kernel, by decide +kernel⟩
/-- a row of lines that a question tells is not long -/
theorem parts_fine {s : QS} {n : Nat} (ok : QsOk s n) (h : isParts s.tb (s.gr.getD []) s.sz = true) : (linesOf s.tb (s.gr.getD []) s.sz).length ≤ 13 ∧ ∀ z ∈ linesOf s.tb (s.gr.getD []) s.sz, z.length ≤ 20000 ∧ PyData.strOk z = true := by
  unfold isParts isTables at h
  simp only [Bool.and_eq_true, List.all_eq_true, decide_eq_true_eq] at h
  obtain ⟨⟨⟨⟨t1, t2⟩, t3, t4⟩, g1⟩, g2, s1⟩ := h
  have hnl : (namesOf' s.tb).length ≤ 6 := by rw [names_len ok.tn]; exact t2
  have hf := List.length_filter_le (fun n => !decide (sizeOf' s.sz n = (1, 1))) (namesOf' s.tb)
  have nm : ∀ n ∈ namesOf' s.tb, (n.length ≤ 8 ∧ PyData.strOk n = true) ∧ areCols (colOf s.tb n) = true := fun n hn => by
    obtain ⟨e, he, rfl⟩ := List.mem_map.mp (mem_setSort.mp hn)
    rw [colOf_mem ok.tn he]
    exact ⟨isName_ok (t3 e he).1, (t3 e he).2⟩
  refine ⟨?_, fun z hz => ?_⟩
  · unfold linesOf
    rw [List.length_append, List.length_append, List.length_map, List.length_map]
    split <;> simp only [List.length_nil, List.length_cons] <;> omega
  · unfold linesOf at hz
    rcases List.mem_append.mp hz with hz | hz
    · rcases List.mem_append.mp hz with hz | hz
      · obtain ⟨n, hn, rfl⟩ := List.mem_map.mp hz
        obtain ⟨h1, h2⟩ := nm n hn
        unfold areCols at h2
        simp only [Bool.and_eq_true, decide_eq_true_eq] at h2
        have := join_fine (l := "table" :: n :: colOf s.tb n) (n := 8) (by simp only [List.length_cons]; omega) fun w hw => by
          rcases List.mem_cons.mp hw with rfl | hw
          · exact six_words
          rcases List.mem_cons.mp hw with rfl | hw
          · exact h1
          · exact areNames_all h2.1 w hw
        exact ⟨Nat.le_trans this.1 (by decide), this.2⟩
      · obtain ⟨n, hn, rfl⟩ := List.mem_map.mp hz
        obtain ⟨h1, _⟩ := nm n (List.mem_filter.mp hn).1
        have hs : okInt (sizeOf' s.sz n).1 ∧ okInt (sizeOf' s.sz n).2 := by
          unfold sizeOf'
          cases hl : s.sz.lookup n with
          | none => exact ⟨ok1, ok1⟩
          | some y =>
            have hm := lookup_mem hl
            exact isSize_ok (s1 _ hm).2 (ok.zs _ hm)
        have hr := ratText_len hs.1 hs.2
        refine ⟨?_, ?_⟩
        · show ("size" ++ (" " ++ (n ++ (" " ++ ratText (sizeOf' s.sz n).1 (sizeOf' s.sz n).2)))).length ≤ 20000
          rw [len_app, len_app, len_app, len_app]
          have a : ("size" : Str).length = 4 := rfl
          have b : (" " : Str).length = 1 := rfl
          omega
        · exact app_ok size_words.1 (app_ok size_words.2 (app_ok h1.2 (app_ok size_words.2 (ratText_ok _ _))))
    · split at hz
      · cases hz
      · rw [List.mem_singleton.mp hz]
        have := join_fine (l := "group" :: s.gr.getD []) (n := 1001) (by simp only [List.length_cons]; have := ok.gs.1; omega) fun w hw => by
          rcases List.mem_cons.mp hw with rfl | hw
          · exact grp_words
          · exact areNames_all g1 w hw
        exact ⟨Nat.le_trans this.1 (by decide), this.2⟩
/-- what is told, as data -/
def dOf : Res → PyData
  | .parse i => .str ("parse " ++ toS (i : Int))
  | .question => .str "question"
  | .lines ls => .list (ls.map PyData.str)
structure Fine (r : Res) : Prop where
  sh : SeqAt.shaped (dOf r) = true
  sz : (dOf r).shown.length ≤ sizeLine
theorem weight_strs {k : Nat} : ∀ {l : List Str}, (∀ z ∈ l, z.length ≤ k) → PyData.weightAll (l.map PyData.str) ≤ l.length * (k + 1)
  | [], _ => Nat.zero_le _
  | z :: r, h => by
    have h1 := h z List.mem_cons_self
    have h2 := weight_strs (l := r) fun y hy => h y (List.mem_cons_of_mem _ hy)
    rw [List.map_cons, PyData.weightAll, PyData.weight, List.length_cons, Nat.succ_mul]
    have : z.cps.size = z.length := rfl
    omega
theorem leaves_str {z : Str} (h : PyData.strOk z = true) : PyData.leavesShort 10 (.str z) = true := by
  rw [PyData.leavesShort, List.all_eq_true]
  intro c hc
  have := strOk_iff.mp h c hc
  exact decide_eq_true (Nat.lt_trans this (by decide))
theorem leaves_strs : ∀ {l : List Str}, (∀ z ∈ l, PyData.strOk z = true) → PyData.leavesShortAll 10 (l.map PyData.str) = true
  | [], _ => by rw [List.map_nil, PyData.leavesShortAll]
  | z :: r, h => by
    rw [List.map_cons, PyData.leavesShortAll, leaves_str (h z List.mem_cons_self), leaves_strs (l := r) fun y hy => h y (List.mem_cons_of_mem _ hy)]
    rfl
theorem fine_str {z : Str} (h1 : z.length ≤ 1000) (h2 : PyData.strOk z = true) : SeqAt.shaped (.str z) = true ∧ (PyData.shown (.str z)).length ≤ sizeLine := by
  refine ⟨?_, PyData.shown_fits (B := 10) (by decide) (by decide) (leaves_str h2) ?_⟩
  · unfold SeqAt.shaped
    rw [PyData.canLay0, h2, PyData.depth]
    rfl
  · rw [PyData.weight]
    have : z.cps.size = z.length := rfl
    omega
theorem fine_told {os : List (Option Str)} (hO : LinesOk os) (hz : os.length ≤ 900) : Fine (toldOf os) := by
  cases h : toldOf os with
  | parse i =>
    have hi := told_lt h
    have hb : (i : Int).natAbs < 10 ^ 4 := by omega
    have hl := toS_len (by decide) hb
    have h0 : ("parse " : Str).length = 6 := rfl
    obtain ⟨a, b⟩ := fine_str (z := "parse " ++ toS (i : Int)) (by rw [len_app]; omega) (app_ok (by decide +kernel) (toS_ok _))
    exact ⟨a, b⟩
  | question =>
    obtain ⟨a, b⟩ := fine_str (z := "question") (by decide) (by decide +kernel)
    exact ⟨a, b⟩
  | lines ls =>
    have hf : ls.length ≤ 13 ∧ ∀ z ∈ ls, z.length ≤ 20000 ∧ PyData.strOk z = true := by
      unfold toldOf at h
      cases ht : takeAll qs0 0 os with
      | inl j => rw [ht] at h; cases h
      | inr s =>
        rw [ht] at h
        have ok := take_ok os hO qs0_ok ht
        unfold resOf at h
        dsimp only at h
        split at h
        · rename_i hp
          cases h
          exact parts_fine ok hp
        · cases h
    refine ⟨shaped_lst fun z hz => (hf.2 z hz).2, PyData.shown_fits (B := 10) (by decide) (by decide) ?_ ?_⟩
    · show PyData.leavesShort 10 (.list (ls.map PyData.str)) = true
      rw [PyData.leavesShort]
      exact leaves_strs fun z hz => (hf.2 z hz).2
    · show PyData.weight (.list (ls.map PyData.str)) ≤ 2 ^ 20
      rw [PyData.weight]
      have h1 := weight_strs (k := 20000) fun z hz => (hf.2 z hz).1
      have h2 : ls.length * (20000 + 1) ≤ 13 * 20001 := Nat.mul_le_mul hf.1 (Nat.le_refl _)
      exact Nat.le_trans h1 (Nat.le_trans h2 (by decide))
theorem resR_dp {K : PySem.W.Frag} {H : Hp} {v : V} : ∀ {r : Res}, ResR H v r → Dp K H v (dOf r)
  | .parse i, h => by
    rw [show v = .str ("parse " ++ toS (i : Int)) from h]
    exact .str _
  | .question, h => by
    rw [show v = .str "question" from h]
    exact .str _
  | .lines ls, h => by
    obtain ⟨t, rfl, ht⟩ := h
    exact dp_lst ht
theorem resR_n {H H' : Hp} {v : V} (e : LamX.ExtN H H') : ∀ {r : Res}, ResR H v r → ResR H' v r
  | .parse _, h => h
  | .question, h => h
  | .lines _, ⟨t, h1, h2⟩ => ⟨t, h1, e _ _ h2 lst_tbl⟩
theorem eqv_self (r : Res) : PyData.eqv (dOf r) (dOf r) = true := by
  cases r with
  | parse i => show PyData.eqv (.str _) (.str _) = true; rw [PyData.eqv]; exact decide_eq_true rfl
  | question => show PyData.eqv (.str _) (.str _) = true; rw [PyData.eqv]; exact decide_eq_true rfl
  | lines ls => show PyData.eqv (.list _) (.list _) = true; rw [PyData.eqv, eqvAll_strs]; exact decide_eq_true rfl
/-- repr of what is told -/
def rReprT (K : PySem.W.Frag) : List V → Hp → VK → Prop := fun xs H Q => ∃ x r, xs = [x] ∧ Dp K H x (dOf r) ∧ Fine r ∧ Q (.str (dOf r).shown) H
theorem depth_list (l : List Str) : (PyData.list (l.map PyData.str)).depth ≤ 2 := by
  have := depth_strs l
  rw [PyData.depth]
  omega
theorem showable_strs : ∀ l : List Str, PyData.showableAll (l.map PyData.str) = true
  | [] => by rw [List.map_nil, PyData.showableAll]
  | z :: r => by rw [List.map_cons, PyData.showableAll, PyData.showable, showable_strs r]; rfl
theorem hasDict_strs : ∀ l : List Str, PyData.hasDictAll (l.map PyData.str) = false
  | [] => by rw [List.map_nil, PyData.hasDictAll]
  | z :: r => by rw [List.map_cons, PyData.hasDictAll, PyData.hasDict, hasDict_strs r]; rfl
theorem call_reprT {X : Cx} (hg : X.A.guards = some []) (hu : X.A.units + 8 < cLine) : CallR X (.builtin "repr") (rReprT X.K) := by
  intro pins s σ H xs us Q I rv h
  obtain ⟨x, r, rfl, hd, hf, q⟩ := h
  obtain ⟨u, rfl, ru⟩ := rv.one
  have str : ∀ z : Str, dOf r = .str z → wpAny (model X.prog X.w) X.A (call (.builtin "repr") [u]) (EP X pins σ Q) X.xe s := fun z e => by
    have hsz := hf.sz
    rw [e] at hd hsz q
    cases hd
    obtain ⟨t, rfl⟩ := ru
    exact PySem.P.repr_of_str ⟨.str (PyData.shown (.str z)), H, I.tok _, ⟨_, by rw [PyData.shown]⟩, q⟩ (by rw [PyData.shown] at hsz; exact hsz)
  cases r with
  | parse i => exact str _ rfl
  | question => exact str _ rfl
  | lines ls =>
    have hsz : (PyData.list (ls.map PyData.str)).shown.length ≤ sizeLine := hf.sz
    obtain ⟨as, rd⟩ := Dp.reads I (.list (ls.map PyData.str)) x u hd ru
    have hd' : Dp X.K H x (.list (ls.map PyData.str)) := hd
    cases hd' with
    | lst _ _ =>
      cases (show u = Value.ref _ from ru)
      refine repr_of_reads' (h₀ := s.heap) rd (by rw [PyData.showable]; exact showable_strs ls) (fun hh => ?_) hg (by have := depth_list ls; omega) (fun _ _ e => e) (fun h' t tk hx => ?_) hsz
      · rw [PyData.hasDict, hasDict_strs] at hh
        cases hh
      · exact ⟨.str _, H, I.kept hx, ⟨t, rfl⟩, q⟩

end K08

namespace K08
open PySem PySem.Spec PyProof.Rows L2 Evl
/-! ### law -/
theorem room8 {k : Nat} {A : Around} (r : Room k A) : A.units + 8 < cLine := by
  have := r.un
  omega
def t_law (K : PySem.W.Frag) {mg : Str → Option Value} (T : Txt K mg) : TS :=
  (tSeq (tFor (iRng1 (tCons (tCB rMax2 (tCons (tC (.int 1)) (tCons (tCB rMin2 (tCons (tC (.int 4)) (tCons (tCB (rLenS K) (tCons (tVar 0) tNil)) tNil))) tNil))) tNil)) (gName 1)
    (tSeq (tAsg (tClose (tCl (sp__law_dice K) (tCons (tVar 0) (tCons (tVar 1) tNil)))) (gName 2))
    (tFor (iRng1 (tCons (tC (.int 3)) tNil)) (gName 3)
    (tSeq (tAsg (L2.tSl (rSlL K) (tCl (sp__law_lines K) (tCons (tCl (sp__law_any K) (tCons (tVar 2) (tCons (tC (.int 3)) (tCons (tC (.int 5)) tNil)))) tNil)) tNoPart (tPart (tC (.int 7)))) (gName 4))
    (tSeq (tIfS (tOr (tTest (tOp (rNeD K) (tCl (sp__law_told T) (tCons (tCl (sp__law_mixed K) (tCons (tVar 2) (tCons (tVar 4) tNil))) tNil)) (tCl (sp__law_read K) (tCons (tVar 4) tNil)))) (tTest (tOp (rNeD K) (tCl (sp__law_told T) (tCons (tVar 4) tNil)) (tCl (sp__law_read K) (tCons (tVar 4) tNil))))) (tRet (tC (.bl false))) tNext)
    (tFor (iRng1 (tCons (tC (.int 5)) tNil)) (gName 5)
    (tSeq (tAsg (tCl (sp__law_bent K) (tCons (tVar 2) (tCons (tCl (sp__law_mixed K) (tCons (tVar 2) (tCons (tVar 4) tNil))) tNil))) (gName 6))
    (tIfS (tTest (tOp rNe (tCB (rReprT K) (tCons (tCl (sp__law_told T) (tCons (tVar 6) tNil)) tNil)) (tCB (rReprT K) (tCons (tCl (sp__law_read K) (tCons (tVar 6) tNil)) tNil)))) (tRet (tC (.bl false))) tNext))))))))
    (tSeq (tAsg (tLst (tCons (tLst tNil) (tCons (tLst (tCons (tC (.str "group a")) tNil)) (tCons (tLst (tCons (tC (.str "table r a")) (tCons (tC (.str "table r a")) tNil))) (tCons (tLst (tCons (tC (.str "table r b a")) tNil)) (tCons (tLst (tCons (tC (.str "table r a")) (tCons (tC (.str "size r 1")) tNil))) (tCons (tLst (tCons (tC (.str "size r 2")) (tCons (tC (.str "table r a")) tNil))) tNil))))))) (gName 7))
    (tSeq (tAsg (tLst (tCons (tC (.str "question")) (tCons (tC (.str "question")) (tCons (tC (.str "parse 1")) (tCons (tC (.str "parse 0")) (tCons (tLst (tCons (tC (.str "table r a")) tNil)) (tCons (tLst (tCons (tC (.str "table r a")) (tCons (tC (.str "size r 2")) tNil))) tNil))))))) (gName 8))
    (tRet (tOp (rEqD K) (tLc (iList K (tVar 7)) (gName 4) tYes (tCl (sp__law_told T) (tCons (tVar 4) tNil)) [4]) (tVar 8))))))
theorem sc_law : FnScope ["_law_script", "_law_spot", "_law_dice_here", "_law_turn", "_law_lines_here", "_law_again", "_law_bent_here", "_law_few", "_law_due"] ["_law_script"] (defScope s_law) := ⟨rfl, rfl, rfl, by decide +kernel, rfl, by decide +kernel, by decide +kernel⟩
theorem d_law {P : Program} {w : World} {K : PySem.W.Frag} {mg : Str → Option Value} {base : Heap} (T : Txt K mg) (TB : LamX.TabB base mg T.l_asked.c T.l_asked.tab) {f : Addr} {cdv : Value} {A : Around} {outer : List Env} {s : Shared} {H : Hp} {E : XK} (hr : Room 14 (A.deeper (envOfC "law" (defScope s_law) s.heap.objs.size f cdv))) (hg : A.guards = some []) :
    PSs (cxOf CX0 P w K mg base ["_law_script", "_law_spot", "_law_dice_here", "_law_turn", "_law_lines_here", "_law_again", "_law_bent_here", "_law_few", "_law_due"] "law" (defScope s_law) f cdv A outer s H E).nox (defBody s_law) (t_law K T) := by
  have hu := hu_of hr
  exact (pss_cons (ps_for PassesOwn.never rfl (pi_range1 rfl T.b_range (pa_cons (pe_callB (call_max2 rfl) (by rfl) T.b_max (by decide +kernel) (pa_cons pe_int (pa_cons (pe_callB (call_min2 rfl) (by rfl) T.b_min (by decide +kernel) (pa_cons pe_int (pa_cons (pe_callB call_len_seq (by rfl) T.b_len (by decide +kernel) (pa_cons (pv 0) pa_nil)) pa_nil))) pa_nil))) pa_nil)) (pg_name (i := 1) sc_law.nd rfl (Or.inl rfl))
      (pss_cons (ps_asg (pe_close (pe_cl (cl__law_dice T) hr (pa_cons (pv 0) (pa_cons (pv 1) pa_nil)))) (pg_name (i := 2) sc_law.nd rfl (Or.inl rfl)))
      (pss_one (ps_for PassesOwn.never rfl (pi_range1 rfl T.b_range (pa_cons pe_int pa_nil)) (pg_name (i := 3) sc_law.nd rfl (Or.inl rfl))
      (pss_cons (ps_asg (pe_slice sl_list (pe_cl (cl__law_lines T) hr (pa_cons (pe_cl (cl__law_any T) hr (pa_cons (pv 2) (pa_cons pe_int (pa_cons pe_int pa_nil)))) pa_nil)) po_none (po_some pe_int)) (pg_name (i := 4) sc_law.nd rfl (Or.inl rfl)))
      (pss_cons (ps_if (PW.pt (pw_or (pt_cmpR (op_neD hr.units) (pe_cl (cl__law_told T TB) hr (pa_cons (pe_cl (cl__law_mixed T) hr (pa_cons (pv 2) (pa_cons (pv 4) pa_nil))) pa_nil)) (pe_cl (cl__law_read T) hr (pa_cons (pv 4) pa_nil)) (nomark _)) (pw_or1 (pt_cmpR (op_neD hr.units) (pe_cl (cl__law_told T TB) hr (pa_cons (pv 4) pa_nil)) (pe_cl (cl__law_read T) hr (pa_cons (pv 4) pa_nil)) (nomark _))))) (pss_one (ps_ret pe_bl)) pss_nil)
      (pss_one (ps_for PassesOwn.never rfl (pi_range1 rfl T.b_range (pa_cons pe_int pa_nil)) (pg_name (i := 5) sc_law.nd rfl (Or.inl rfl))
      (pss_cons (ps_asg (pe_cl (cl__law_bent T) hr (pa_cons (pv 2) (pa_cons (pe_cl (cl__law_mixed T) hr (pa_cons (pv 2) (pa_cons (pv 4) pa_nil))) pa_nil))) (pg_name (i := 6) sc_law.nd rfl (Or.inl rfl)))
      (pss_one (ps_if (pt_cmpR op_ne (pe_callB (call_reprT hg (room8 hr)) (by rfl) T.b_repr (by decide +kernel) (pa_cons (pe_cl (cl__law_told T TB) hr (pa_cons (pv 6) pa_nil)) pa_nil)) (pe_callB (call_reprT hg (room8 hr)) (by rfl) T.b_repr (by decide +kernel) (pa_cons (pe_cl (cl__law_read T) hr (pa_cons (pv 6) pa_nil)) pa_nil)) (nomark _)) (pss_one (ps_ret pe_bl)) pss_nil)))))))))))
      (pss_cons (ps_asg (pe_lst (pa_cons (pe_lst pa_nil) (pa_cons (pe_lst (pa_cons pe_str pa_nil)) (pa_cons (pe_lst (pa_cons pe_str (pa_cons pe_str pa_nil))) (pa_cons (pe_lst (pa_cons pe_str pa_nil)) (pa_cons (pe_lst (pa_cons pe_str (pa_cons pe_str pa_nil))) (pa_cons (pe_lst (pa_cons pe_str (pa_cons pe_str pa_nil))) pa_nil))))))) (pg_name (i := 7) sc_law.nd rfl (Or.inl rfl)))
      (pss_cons (ps_asg (pe_lst (pa_cons pe_str (pa_cons pe_str (pa_cons pe_str (pa_cons pe_str (pa_cons (pe_lst (pa_cons pe_str pa_nil)) (pa_cons (pe_lst (pa_cons pe_str (pa_cons pe_str pa_nil))) pa_nil))))))) (pg_name (i := 8) sc_law.nd rfl (Or.inl rfl)))
      (pss_one (ps_ret (pe_cmpR (op_eqD hr.units) (pe_lc (own := [("_law_lines_here", 4)]) rfl sc_law.nd (pi_list (pv 7)) (blkOk_by (own := [("_law_lines_here", 4)]) (N := ["_law_script", "_law_spot", "_law_dice_here", "_law_turn", "_law_lines_here", "_law_again", "_law_bent_here", "_law_few", "_law_due"]) (sc := defScope s_law) (by decide +kernel)) (fun _ _ _ _ _ => (pg_name (i := 4) sc_law.nd rfl (Or.inl rfl))) (fun _ _ _ _ _ => pts_nil) (fun _ _ _ _ _ => (pe_cl (cl__law_told T TB) hr (pa_cons (pv 4) pa_nil)))) (pv 8) (nomark _)))))))

end K08

namespace K08
open PySem PySem.Spec PyProof.Rows L2 Evl
/-! ### the lines of a plain question that the law makes (plain) -/
structure LinesP (ls : List Str) : Prop where
  is : ∃ is : List Itm, ls = is.map textI ∧ (∀ i ∈ is, ItmOk i) ∧ (is.map keyI).Nodup
  ok : ∀ z ∈ ls, LineOk z
  lo : 1 ≤ ls.length
  hi : ls.length ≤ 7
def itemsOf (p : P0) : List Itm := (namesOf' p.tb).map (fun n => .tb n (colOf p.tb n)) ++ ((namesOf' p.tb).filter fun n => !decide (sizeOf' p.sz n = (1, 1))).map (fun n => .sz n (sizeOf' p.sz n)) ++ (if p.gr = [] then [] else [.gr p.gr])
theorem items_lines (p : P0) : linesOf p.tb p.gr p.sz = (itemsOf p).map textI := by
  unfold linesOf itemsOf
  rw [List.map_append, List.map_append, List.map_map, List.map_map]
  congr 1
  split <;> rfl
theorem six_ok : ∀ s ∈ six, (RatT (ratText s.1 s.2) s.1 s.2 ∧ 32 ∉ TL.tl (ratText s.1 s.2)) ∧ (ratText s.1 s.2).length ≤ 3 ∧ okInt s.1 ∧ okInt s.2 := fun s hs => by
  have h1 := List.all_eq_true.mp (show six.all (fun s => decide (1 ≤ s.2) && (decide (Int.gcd s.1 s.2 = 1) && (decide (32 ∉ TL.tl (ratText s.1 s.2)) && (decide ((ratText s.1 s.2).length ≤ 3) && (decide (s.1.natAbs ≤ 3) && decide (s.2.natAbs ≤ 3)))))) = true by decide +kernel) s hs
  simp only [Bool.and_eq_true, decide_eq_true_eq] at h1
  obtain ⟨a, b, c, d, e, f⟩ := h1
  have h0 : (3 : Nat) < 10 ^ 120 := by decide
  refine ⟨⟨⟨a, b, rfl⟩, c⟩, d, ?_, ?_⟩ <;> unfold okInt <;> omega
theorem map_nodup {α β : Type} {f : α → β} {l : List α} (h : l.Nodup) (hf : ∀ a b, f a = f b → a = b) : (l.map f).Nodup := List.Pairwise.map f (fun a b hab e => hab (hf a b e)) h
structure GenF (p : P0) : Prop where
  tb : ∀ e ∈ p.tb, isName e.1 = true ∧ lawNames e.2 = true ∧ e.2.length ≤ 3 ∧ ∀ z ∈ e.2, z.length ≤ 2
  lo : 1 ≤ p.tb.length
  hi : p.tb.length ≤ 4
  gr : areNames p.gr = true ∧ p.gr.length ≤ 6 ∧ ∀ z ∈ p.gr, z.length ≤ 2
theorem gen_f {p : P0} (h : GenP p) : GenF p := by
  have hb := h.b
  unfold genB at hb
  simp only [Bool.and_eq_true, List.all_eq_true, decide_eq_true_eq] at hb
  obtain ⟨⟨h1, h2⟩, h3, h4, h5, h6⟩ := hb
  exact ⟨fun e he => ⟨(h3 e he).1, (h3 e he).2.1, (h3 e he).2.2.1, (h3 e he).2.2.2⟩, h1, h2, h4, h5, h6⟩
theorem gen_name {p : P0} (h : GenP p) {n : Str} (hn : n ∈ namesOf' p.tb) : ∃ e ∈ p.tb, e.1 = n ∧ colOf p.tb n = e.2 ∧ sizeOf' p.sz n ∈ six := by
  obtain ⟨e, he, rfl⟩ := List.mem_map.mp (mem_setSort.mp hn)
  obtain ⟨s, hs, h6⟩ := h.sz e he
  refine ⟨e, he, rfl, colOf_mem h.nd he, ?_⟩
  unfold sizeOf'
  rw [hs]
  exact h6
theorem items_ok {p : P0} (h : GenP p) : ∀ i ∈ itemsOf p, ItmOk i := fun i hi => by
  have f := gen_f h
  unfold itemsOf at hi
  rcases List.mem_append.mp hi with hi | hi
  · rcases List.mem_append.mp hi with hi | hi
    · obtain ⟨n, hn, rfl⟩ := List.mem_map.mp hi
      obtain ⟨e, he, rfl, hc, _⟩ := gen_name h hn
      show isName e.1 = true ∧ lawNames (colOf p.tb e.1) = true
      rw [hc]
      exact ⟨(f.tb e he).1, (f.tb e he).2.1⟩
    · obtain ⟨n, hn, rfl⟩ := List.mem_map.mp hi
      obtain ⟨e, he, rfl, _, hs⟩ := gen_name h (List.mem_filter.mp hn).1
      exact ⟨(f.tb e he).1, (six_ok _ hs).1⟩
  · split at hi
    · cases hi
    · rename_i hg
      rw [List.mem_singleton.mp hi]
      show lawNames p.gr = true
      unfold lawNames
      rw [f.gr.1, decide_eq_false hg]
      rfl
theorem items_keys (p : P0) : ((itemsOf p).map keyI).Nodup := by
  have hn : (namesOf' p.tb).Nodup := asc_nodup (asc_setSort _)
  unfold itemsOf
  rw [List.map_append, List.map_append, List.map_map, List.map_map]
  refine List.nodup_append.mpr ⟨List.nodup_append.mpr ⟨?_, ?_, ?_⟩, ?_, ?_⟩
  · exact map_nodup hn fun a b e => (Prod.mk.inj e).2
  · exact map_nodup (hn.sublist List.filter_sublist) fun a b e => (Prod.mk.inj e).2
  · intro a ha b hb e
    obtain ⟨x, _, rfl⟩ := List.mem_map.mp ha
    obtain ⟨y, _, rfl⟩ := List.mem_map.mp hb
    exact absurd (Prod.mk.inj e).1 (by decide)
  · split
    · exact List.nodup_nil
    · exact List.nodup_cons.mpr ⟨List.not_mem_nil, List.nodup_nil⟩
  · intro a ha b hb e
    have h2 : b.1 = 2 := by
      split at hb
      · cases hb
      · rw [List.mem_singleton.mp hb]
        rfl
    rcases List.mem_append.mp ha with ha | ha
    · obtain ⟨x, _, rfl⟩ := List.mem_map.mp ha
      rw [← e] at h2
      exact absurd h2 (show ¬ (0 : Nat) = 2 by decide)
    · obtain ⟨x, _, rfl⟩ := List.mem_map.mp ha
      rw [← e] at h2
      exact absurd h2 (show ¬ (1 : Nat) = 2 by decide)
theorem join_lo (p q : Str) (r : List Str) : p.length ≤ (Txt.join " " (p :: q :: r)).length := by
  have e : TL.tl (Txt.join " " (p :: q :: r)) = TL.joinL [32] ((p :: q :: r).map TL.tl) := by rw [TL.join_eq, TL.tl_join, tl_space]
  rw [tl_len, tl_len, e]
  show _ ≤ (TL.tl p ++ ([32] ++ TL.joinL [32] (TL.tl q :: r.map TL.tl))).length
  rw [List.length_append]
  omega
theorem join_line {l : List Str} (h : wlen l ≤ 28) (ok : ∀ w ∈ l, PyData.strOk w = true) (hn : 1 ≤ (Txt.join " " l).length) : LineOk (Txt.join " " l) := by
  have e : TL.tl (Txt.join " " l) = TL.joinL [32] (l.map TL.tl) := by rw [TL.join_eq, TL.tl_join, tl_space]
  obtain ⟨h1, _⟩ := joinL_facts (l.map TL.tl)
  have hs : ((l.map TL.tl).map List.length) = l.map (·.length) := by
    rw [List.map_map]
    exact List.map_congr_left fun w _ => (tl_len w).symm
  rw [hs, List.length_map] at h1
  exact ⟨hn, by rw [tl_len, e]; exact Nat.le_trans h1 h, (join_ok (by omega) ok).2⟩
theorem items_line {p : P0} (h : GenP p) : ∀ i ∈ itemsOf p, LineOk (textI i) := fun i hi => by
  have f := gen_f h
  unfold itemsOf at hi
  rcases List.mem_append.mp hi with hi | hi
  · rcases List.mem_append.mp hi with hi | hi
    · obtain ⟨n, hn, rfl⟩ := List.mem_map.mp hi
      obtain ⟨e, he, rfl, hc, _⟩ := gen_name h hn
      obtain ⟨a, b, c, d⟩ := f.tb e he
      show LineOk (Txt.join " " ("table" :: e.1 :: colOf p.tb e.1))
      rw [hc]
      have hl := sum_le d
      have ha := isName_ok a
      have h5 : ("table" : Str).length = 5 := rfl
      refine join_line ?_ (fun w hw => ?_) (Nat.le_trans (by rw [h5]; decide) (join_lo _ _ _))
      · unfold wlen
        rw [List.map_cons, List.map_cons, List.sum_cons, List.sum_cons, List.length_cons, List.length_cons, h5]
        omega
      · rcases List.mem_cons.mp hw with rfl | hw
        · exact six_words.2
        rcases List.mem_cons.mp hw with rfl | hw
        · exact ha.2
        · exact ((lawNames_ok b).2.2 w hw).2
    · obtain ⟨n, hn, rfl⟩ := List.mem_map.mp hi
      obtain ⟨e, he, rfl, _, hs⟩ := gen_name h (List.mem_filter.mp hn).1
      obtain ⟨_, hr, _, _⟩ := six_ok _ hs
      have ha := isName_ok (f.tb e he).1
      show LineOk ("size" ++ (" " ++ (e.1 ++ (" " ++ ratText (sizeOf' p.sz e.1).1 (sizeOf' p.sz e.1).2))))
      have a : ("size" : Str).length = 4 := rfl
      have b : (" " : Str).length = 1 := rfl
      refine ⟨?_, ?_, app_ok size_words.1 (app_ok size_words.2 (app_ok ha.2 (app_ok size_words.2 (ratText_ok _ _))))⟩
      · rw [len_app]
        omega
      · rw [len_app, len_app, len_app, len_app]
        omega
  · split at hi
    · cases hi
    · rename_i hg
      rw [List.mem_singleton.mp hi]
      obtain ⟨a, b, c⟩ := f.gr
      have hl := sum_le c
      have h5 : ("group" : Str).length = 5 := rfl
      show LineOk (Txt.join " " ("group" :: p.gr))
      refine join_line ?_ (fun w hw => ?_) ?_
      · unfold wlen
        rw [List.map_cons, List.sum_cons, List.length_cons, h5]
        omega
      · rcases List.mem_cons.mp hw with rfl | hw
        · exact grp_words.2
        · exact (areNames_all a w hw).2
      · cases hh : p.gr with
        | nil => exact absurd hh hg
        | cons x r => exact Nat.le_trans (by rw [h5]; decide) (join_lo _ _ _)
theorem gen_lines {p : P0} (h : GenP p) : LinesP ((linesOf p.tb p.gr p.sz).take 7) := by
  have f := gen_f h
  rw [items_lines, ← List.map_take]
  have hk : (((itemsOf p).take 7).map keyI).Nodup := by
    rw [List.map_take]
    exact (items_keys p).sublist (List.take_sublist _ _)
  refine ⟨⟨_, rfl, fun i hi => items_ok h i (List.mem_of_mem_take hi), hk⟩, fun z hz => ?_, ?_, by rw [List.length_map, List.length_take]; omega⟩
  · obtain ⟨i, hi, rfl⟩ := List.mem_map.mp hz
    exact items_line h i (List.mem_of_mem_take hi)
  · have h1 : (namesOf' p.tb).length = p.tb.length := names_len h.nd
    have h2 := f.lo
    rw [List.length_map, List.length_take]
    have h3 : 1 ≤ (itemsOf p).length := by
      unfold itemsOf
      rw [List.length_append, List.length_append, List.length_map]
      omega
    omega
theorem gen_plok {p : P0} (h : GenP p) : PlOk p := by
  have f := gen_f h
  refine ⟨h.nd, by have := f.hi; omega, fun e he => ?_, ⟨by have := f.gr.2.1; omega, fun z hz => ⟨by have := f.gr.2.2 z hz; omega, (areNames_all f.gr.1 z hz).2⟩⟩, fun e he => ?_, fun e he => ⟨(six_ok _ (h.zs e he)).2.2.1, (six_ok _ (h.zs e he)).2.2.2⟩⟩
  · obtain ⟨a, b, c, d⟩ := f.tb e he
    exact ⟨by have := (isName_ok a).1; omega, by omega, fun z hz => by have := d z hz; omega⟩
  · obtain ⟨s, hs, _⟩ := h.sz e he
    rw [hs]
    rfl

end K08

namespace K08
open PySem PySem.Spec PyProof.Rows L2 Evl
/-! ### what six rows of lines tell (plain) -/
theorem told_items {is : List Itm} (ho : ∀ i ∈ is, ItmOk i) (hk : (is.map keyI).Nodup) : toldOf (is.map fun i => some (textI i)) = resOf (.inr (is.foldl putI qs0)) := by
  obtain ⟨a, _, _⟩ := take_items is qs0 0 ho (fun i _ => by cases i <;> rfl) hk List.nodup_nil List.nodup_nil
  unfold toldOf
  rw [a]
theorem res_no {s : QS} (h : isParts s.tb (s.gr.getD []) s.sz = false) : resOf (.inr s) = .question := by
  show (if _ then _ else _) = _
  rw [if_neg (by rw [h]; decide)]
theorem res_yes {s : QS} {ls : List Str} (h : isParts s.tb (s.gr.getD []) s.sz = true) (hl : linesOf s.tb (s.gr.getD []) s.sz = ls) : resOf (.inr s) = .lines ls := by
  show (if _ then _ else _) = _
  rw [if_pos h, hl]
theorem it_t : ItmOk (.tb "r" ["a"]) := ⟨by decide +kernel, by decide +kernel⟩
theorem it_g : ItmOk (.gr ["a"]) := (by decide +kernel : lawNames ["a"] = true)
theorem it_1 : ItmOk (.sz "r" (1, 1)) := ⟨by decide +kernel, ⟨by decide, by decide, rfl⟩, by decide +kernel⟩
theorem it_2 : ItmOk (.sz "r" (2, 1)) := ⟨by decide +kernel, ⟨by decide, by decide, rfl⟩, by decide +kernel⟩
theorem tx_t : textI (.tb "r" ["a"]) = "table r a" := by
  show Txt.join " " ["table", "r", "a"] = _
  decide +kernel
theorem tx_g : textI (.gr ["a"]) = "group a" := by
  show Txt.join " " ["group", "a"] = _
  decide +kernel
theorem tx_1 : textI (.sz "r" (1, 1)) = "size r 1" := by
  show sizeText "r" (1, 1) = _
  decide +kernel
theorem tx_2 : textI (.sz "r" (2, 1)) = "size r 2" := by
  show sizeText "r" (2, 1) = _
  decide +kernel
theorem told_1 : toldOf [] = .question := by
  show resOf (.inr qs0) = _
  exact res_no (by decide +kernel)
theorem told_2 : toldOf [some "group a"] = .question := by
  rw [← tx_g]
  refine (told_items (is := [.gr ["a"]]) (fun i hi => by rw [List.mem_singleton.mp hi]; exact it_g) (by decide +kernel)).trans ?_
  exact res_no (by decide +kernel)
theorem told_3 : toldOf [some "table r a", some "table r a"] = .parse 1 := by
  have h1 : stepLine qs0 (some "table r a") = some (putI qs0 (.tb "r" ["a"])) := by
    rw [← tx_t]
    exact step_itm it_t rfl
  have h2 : stepLine (putI qs0 (.tb "r" ["a"])) (some "table r a") = none := by
    rw [← tx_t]
    show stepWords _ (wordsOf (textI (.tb "r" ["a"]))) = none
    rw [wordsI it_t]
    show stepWords _ ("table" :: "r" :: ["a"]) = none
    rw [sw_table]
    exact if_neg (by decide +kernel)
  unfold toldOf
  rw [takeAll, h1]
  show resOf (takeAll (putI qs0 (.tb "r" ["a"])) 1 [some "table r a"]) = _
  rw [takeAll, h2]
  rfl
def w4w : List Str := ["table", "r", "b", "a"]
theorem told_4 : toldOf [some "table r b a"] = .parse 0 := by
  have h2 : stepLine qs0 (some "table r b a") = none := by
    show stepWords _ (wordsOf "table r b a") = none
    have hw : wordsOf "table r b a" = w4w := by
      rw [show ("table r b a" : Str) = Txt.join " " w4w by decide +kernel]
      exact words_join (l := w4w) (List.cons_ne_nil _ _) fun z hz => of_decide_eq_true (List.all_eq_true.mp (show w4w.all (fun z => decide (32 ∉ TL.tl z)) = true by decide +kernel) z hz)
    rw [hw]
    show stepWords _ ("table" :: "r" :: (["b", "a"] : List Str)) = none
    rw [sw_table]
    exact if_neg (by decide +kernel)
  unfold toldOf
  rw [takeAll, h2]
  rfl
theorem told_5 : toldOf [some "table r a", some "size r 1"] = .lines ["table r a"] := by
  rw [← tx_t, ← tx_1]
  refine (told_items (is := [.tb "r" ["a"], .sz "r" (1, 1)]) (fun i hi => ?_) (by decide +kernel)).trans ?_
  · rcases List.mem_cons.mp hi with rfl | hi
    · exact it_t
    · rw [List.mem_singleton.mp hi]
      exact it_1
  · exact res_yes (by decide +kernel) (by decide +kernel)
theorem told_6 : toldOf [some "size r 2", some "table r a"] = .lines ["table r a", "size r 2"] := by
  rw [← tx_t, ← tx_2]
  refine (told_items (is := [.sz "r" (2, 1), .tb "r" ["a"]]) (fun i hi => ?_) (by decide +kernel)).trans ?_
  · rcases List.mem_cons.mp hi with rfl | hi
    · exact it_2
    · rw [List.mem_singleton.mp hi]
      exact it_t
  · exact res_yes (by decide +kernel) (by decide +kernel)

end K08

namespace K08
open PySem PySem.Spec PyProof.Rows L2 Evl
/-! ### the law: words for calls that write into the table of code objects -/
/-- no table is known -/
def NoTab (B : Hp) : Prop := ∀ b ps, B b ≠ some (.tbl ps)
theorem noTab_dt (H : Hp) : NoTab (dt H) := fun _ ps z => (dt_back z).2 ps rfl
theorem ex_nt {B H1 H2 : Hp} (n : NoTab B) (e : Ex B H1) (e2 : LamX.ExtN H1 H2) : Ex B H2 := fun b o h => e2 _ _ (e _ _ h) fun ps z => n b ps (by rw [h, z])
theorem ex_dt {B H1 : Hp} (n : NoTab B) (e : Ex B H1) : Ex B (dt H1) := fun b o h => dt_some (e _ _ h) fun ps z => n b ps (by rw [h, z])
theorem sql_dt {K : PySem.W.Frag} {H : Hp} {a : Addr} {xs : List V} (h : SqL K H a xs) : SqL K (dt H) a xs := by
  rcases h with (h | ⟨o, h⟩) | h
  · exact .inl (.inl (dt_some h lst_tbl))
  · exact .inl (.inr ⟨o, dt_some h (fun _ z => nomatch z)⟩)
  · exact .inr h
theorem lns_s {K : PySem.W.Frag} {H : Hp} : ∀ {ls : List Str}, (∀ z ∈ ls, lnOk z) → LnsR K H (ls.map V.str) (ls.map some)
  | [], _ => .nil
  | _ :: _, h => .cons ⟨rfl, h _ List.mem_cons_self⟩ (lns_s fun z hz => h z (List.mem_cons_of_mem _ hz))
section
variable {K : PySem.W.Frag} {mg : Str → Option Value} {T : Txt K mg} {σ : L2.St} {B H : Hp} {te ta tb td tl : TE} {tt tu : TT} {P : V → Hp → Prop} {r : Res} {D : Ends} {tz ts : TS} {d l : Addr} {ls : List Str}
def EvN (T : Txt K mg) (te : TE) (σ : L2.St) (B : Hp) (P : V → Hp → Prop) : Prop := ∀ H1, Ex B H1 → LamX.Tabs (tabsT T) H1 → ∀ Q : VK, (∀ v H2, LamX.ExtN H1 H2 → LamX.Tabs (tabsT T) H2 → P v H2 → Q v H2) → te σ H1 Q
def EvTN (T : Txt K mg) (tt : TT) (σ : L2.St) (B : Hp) (b : Bool) : Prop := ∀ H1, Ex B H1 → LamX.Tabs (tabsT T) H1 → ∀ Q : Bool → Hp → Prop, (∀ H2, LamX.ExtN H1 H2 → LamX.Tabs (tabsT T) H2 → Q b H2) → tt σ H1 Q
/-- a row of lines that tells r -/
abbrev Tells (K : PySem.W.Frag) (r : Res) : List V → Hp → Prop := fun ys H' => ys.length ≤ 9 ∧ ∃ os, LnsR K (dt H') ys os ∧ toldOf os = r
theorem n_toldF (h : EvWQ te σ B (Tells K r)) : ∀ H1, Ex B H1 → LamX.Tabs (tabsT T) H1 → ∀ Q : VK, (∀ v H2, LamX.ExtN H1 H2 → LamX.Tabs (tabsT T) H2 → ResR H2 v r → (∀ t, v = .ref t → dt H1 t = none) → Q v H2) → tCl (sp__law_told T) (tCons te tNil) σ H1 Q := fun H1 e t Q q => h H1 e _ fun p ys H2 e2 hx hP => by
  obtain ⟨hz, os, hL, hr⟩ := hP
  exact ⟨p, ys, os, rfl, SqL.of hx, hL, hz, t.ext e2, fun v H' e' t' hv hf => q v H' ((ext_n e2).trans e') t' (by rw [← hr]; exact hv) fun t z => by
    have := hf t z
    cases hh : dt H1 t with
    | none => rfl
    | some o =>
      rw [dt_n (ext_n e2) _ _ hh] at this
      cases this⟩
theorem n_told (h : EvWQ te σ B (Tells K r)) : EvN T (tCl (sp__law_told T) (tCons te tNil)) σ B (fun v H => ResR H v r) := fun H1 e t Q q => n_toldF h H1 e t Q fun v H2 a b c _ => q v H2 a b c
theorem eq_read (h : EvWQ te σ B (Tells K r)) : EvQ (tCl (sp__law_read K) (tCons te tNil)) σ B (fun v H => ResR H v r) := fun H1 e Q q => h H1 e _ fun p ys H2 e2 hx hP => by
  obtain ⟨hz, os, hL, hr⟩ := hP
  exact ⟨p, ys, os, rfl, SqL.of hx, hL.ex (dt_ex _), by omega, fun v H' e' hv => q v H' (e2.trans e') (by rw [← hr]; exact hv)⟩
theorem n_ne (nB : NoTab B) (ha : EvN T ta σ B (fun v H => ResR H v r)) (hb : EvQ tb σ B (fun v H => ResR H v r)) (f : Fine r) : EvTN T (tTest (tOp (rNeD K) ta tb)) σ B false := fun H1 e t Q q =>
  ha H1 e t _ fun v H2 e2 t2 hv => hb H2 (ex_nt nB e e2) _ fun u H3 e3 hu => by
    refine ⟨dOf r, dOf r, resR_dp (resR_n (ext_n e3) hv), resR_dp hu, f.sh, f.sh, ?_⟩
    rw [eqv_self]
    exact ⟨false, rfl, q H3 (e2.trans (ext_n e3)) (t2.ext e3)⟩
theorem n_neRepr (nB : NoTab B) (ha : EvN T ta σ B (fun v H => ResR H v r)) (hb : EvQ tb σ B (fun v H => ResR H v r)) (f : Fine r) : EvTN T (tTest (tOp rNe (tCB (rReprT K) (tCons ta tNil)) (tCB (rReprT K) (tCons tb tNil)))) σ B false := fun H1 e t Q q =>
  ha H1 e t _ fun v H2 e2 t2 hv => ⟨v, r, rfl, resR_dp hv, f, hb H2 (ex_nt nB e e2) _ fun u H3 e3 hu => ⟨u, r, rfl, resR_dp hu, f, rfl, by
    rw [decide_eq_true rfl]
    exact ⟨false, rfl, q H3 (e2.trans (ext_n e3)) (t2.ext e3)⟩⟩⟩
theorem n_or (nB : NoTab B) (h1 : EvTN T tt σ B false) (h2 : EvTN T tu σ B false) : EvTN T (tOr tt tu) σ B false := fun H1 e t Q q =>
  h1 H1 e t _ fun H2 e2 t2 => by
    rw [if_neg (by decide)]
    exact h2 H2 (ex_nt nB e e2) t2 Q fun H3 e3 t3 => q H3 (e2.trans e3) t3
theorem q_ifN (h : EvTN T tt σ (dt H) false) (t : LamX.Tabs (tabsT T) H) (k : ∀ H1, LamX.ExtN H H1 → LamX.Tabs (tabsT T) H1 → tz D σ H1) : tSeq (tIfS tt ts tNext) tz D σ H :=
  h H (dt_ex H) t _ fun H1 e1 t1 => by
    rw [if_neg (by decide)]
    exact k H1 e1 t1
theorem s_ifN (h : EvTN T tt σ (dt H) false) (t : LamX.Tabs (tabsT T) H) (k : ∀ H1, LamX.ExtN H H1 → LamX.Tabs (tabsT T) H1 → D.nx σ H1) : tIfS tt ts tNext D σ H :=
  h H (dt_ex H) t _ fun H1 e1 t1 => by
    rw [if_neg (by decide)]
    exact k H1 e1 t1
/-! the law's lines -/
theorem elq_any (hd : Ev td σ H (.ref d)) (hD : H d = some (DiceO d)) : EvLQ (tCl (sp__law_lines K) (tCons (tCl (sp__law_any K) (tCons td (tCons (tC (.int 3)) (tCons (tC (.int 5)) tNil)))) tNil)) σ H (fun ys _ => ∃ p, ys = (linesOf p.tb p.gr p.sz).map V.str ∧ GenP p) := fun H1 e Q q => by
  show (tCons td (tCons (tC (.int 3)) (tCons (tC (.int 5)) tNil))) σ H1 fun vs H2 => sp__law_any K vs H2 (fun v H3 => sp__law_lines K [v] H3 Q E0) E0
  exact (ea_cons hd (ea_cons ev_c (ea_cons ev_c ea_nil))) H1 e _ fun H2 e2 => ⟨d, rfl, e2 _ _ (e _ _ hD), fun pd p H3 e3 hp hg => ⟨pd, p, rfl, hp, gen_plok hg, fun r H4 hr e4 hx => q r _ H4 (fresh_back (e2.trans e3) hr) ((e2.trans e3).trans e4) hx ⟨p, rfl, hg⟩⟩⟩
theorem elq_seven {Pl : List V → Hp → Prop} (h : EvLQ te σ H Pl) : EvLQ (L2.tSl (rSlL K) te tNoPart (tPart (tC (.int 7)))) σ H (fun zs _ => ∃ ys H1, Pl ys H1 ∧ zs = ys.take 7) := fun H1 e Q q =>
  h H1 e _ fun p ys H2 hp e2 hx hP => by
    refine (el_take (K := K) (k := 7) (σ := σ) (ev_c (v := .ref p)) hx (ev_c (v := .int 7))) H2 (Ex.refl H2) _ fun z H3 hz e3 hx3 => ?_
    exact q z _ H3 (fresh_back e2 hz) (e2.trans e3) hx3 ⟨ys, H2, hP, rfl⟩
theorem elq_lines (hd : Ev td σ H (.ref d)) (hD : H d = some (DiceO d)) : EvLQ (L2.tSl (rSlL K) (tCl (sp__law_lines K) (tCons (tCl (sp__law_any K) (tCons td (tCons (tC (.int 3)) (tCons (tC (.int 5)) tNil)))) tNil)) tNoPart (tPart (tC (.int 7)))) σ H (fun ys _ => ∃ ls, ys = ls.map V.str ∧ LinesP ls) :=
  (elq_seven (elq_any hd hD)).mono fun zs _ h => by
    obtain ⟨ys, _, ⟨p, rfl, hg⟩, rfl⟩ := h
    exact ⟨(linesOf p.tb p.gr p.sz).take 7, by rw [List.map_take], gen_lines hg⟩
theorem perm_lines (h : LinesP ls) {ys : List V} (hp : ys.Perm (ls.map V.str)) : ∃ ms : List Str, ys = ms.map V.str ∧ LinesP ms ∧ toldOf (ms.map some) = toldOf (ls.map some) := by
  obtain ⟨is, rfl, h1, h2⟩ := h.is
  rw [List.map_map] at hp
  obtain ⟨js, hj, rfl⟩ := perm_back _ hp is rfl
  refine ⟨js.map textI, by rw [List.map_map], ⟨⟨js, rfl, fun i hi => h1 i (hj.mem_iff.mp hi), (hj.map keyI).nodup_iff.mpr h2⟩, fun z hz => ?_, ?_, ?_⟩, ?_⟩
  · obtain ⟨i, hi, rfl⟩ := List.mem_map.mp hz
    exact h.ok _ (List.mem_map.mpr ⟨i, hj.mem_iff.mp hi, rfl⟩)
  · have := h.lo
    rw [List.length_map] at this ⊢
    rw [hj.length_eq]
    exact this
  · have := h.hi
    rw [List.length_map] at this ⊢
    rw [hj.length_eq]
    exact this
  · rw [List.map_map, List.map_map]
    exact (told_perm hj.symm h1 h2).symm
theorem tells_lines (h : LinesP ls) (H : Hp) : Tells K (toldOf (ls.map some)) (ls.map V.str) H := ⟨by rw [List.length_map]; have := h.hi; omega, _, lns_s fun z hz => lnOk_of (h.ok z hz), rfl⟩
theorem wq_lines (h : LinesP ls) (hl : Ev tl σ B (.ref l)) (hx : B l = some (.lst (ls.map V.str))) : EvWQ tl σ B (Tells K (toldOf (ls.map some))) := fun H1 e Q q => hl H1 e _ fun H2 e2 => q l _ H2 e2 (e2 _ _ (e _ _ hx)) (tells_lines h H2)
theorem wq_mixed (h : LinesP ls) (hd : Ev td σ B (.ref d)) (hD : B d = some (DiceO d)) (hl : Ev tl σ B (.ref l)) (hx : B l = some (.lst (ls.map V.str))) : EvWQ (tCl (sp__law_mixed K) (tCons td (tCons tl tNil))) σ B (Tells K (toldOf (ls.map some))) := fun H1 e Q q =>
  elq_mixed (K := K) hd hD (ew_old hl hx) (by rw [List.length_map]; have := h.hi; omega) H1 e _ fun p ys H2 _ e2 hx2 hP => q p ys H2 e2 hx2 (by
    obtain ⟨ms, rfl, hm, ht⟩ := perm_lines h hP
    rw [← ht]
    exact tells_lines hm H2)
theorem fine_lines (h : LinesP ls) : Fine (toldOf (ls.map some)) := fine_told (fun z hz => by
  obtain ⟨y, hy, e⟩ := List.mem_map.mp hz
  cases e
  exact lnOk_of (h.ok z hy)) (by rw [List.length_map]; have := h.hi; omega)
/-- _law_bent of the mixed lines -/
theorem eq_bent (h : LinesP ls) (hd : Ev td σ H (.ref d)) (hD : H d = some (DiceO d)) (hl : Ev tl σ H (.ref l)) (hx : H l = some (.lst (ls.map V.str))) : EvQ (tCl (sp__law_bent K) (tCons td (tCons (tCl (sp__law_mixed K) (tCons td (tCons tl tNil))) tNil))) σ H (fun v H' => ∃ b ys os, v = .ref b ∧ H' b = some (.lst ys) ∧ ys.length ≤ 9 ∧ LnsR K (dt H') ys os) := fun H1 e Q q =>
  hd H1 e _ fun H2 e2 => elq_mixed (K := K) hd hD (ew_old hl hx) (by rw [List.length_map]; have := h.hi; omega) H2 (e.trans e2) _ fun p ys H3 _ e3 hx3 hP => by
    obtain ⟨ms, rfl, hm, _⟩ := perm_lines h hP
    refine ⟨d, p, ms, rfl, e3 _ _ (e2 _ _ (e _ _ hD)), hx3, hm.ok, hm.lo, hm.hi, fun b H4 zs e4 hb hz hR => ?_⟩
    obtain ⟨os, hos⟩ := outs_ln hR
    exact q _ H4 ((e2.trans e3).trans e4) ⟨b, zs, os, rfl, hb, hz, hos⟩
end

end K08

namespace K08
open PySem PySem.Spec PyProof.Rows L2 Evl
/-! ### the law's last row -/
def EvAX {α : Type} (ta : TA) (σ : L2.St) (H : Hp) (R : Hp → V → α → Prop) (as : List α) : Prop := ∀ H1, Ex H H1 → ∀ Q : List V → Hp → Prop, (∀ vs H2, Ex H1 H2 → Paired (R H2) vs as → Q vs H2) → ta σ H1 Q
section
variable {α : Type} {σ : L2.St} {H : Hp} {te : TE} {ta : TA} {R : Hp → V → α → Prop} {a : α} {as : List α}
theorem eax_nil : EvAX tNil σ H R [] := fun H1 _ _ q => q [] H1 (Ex.refl H1) .nil
theorem eax_cons (st : ∀ H H' v a, Ex H H' → R H v a → R H' v a) (h : EvQ te σ H (fun v H' => R H' v a)) (hr : EvAX ta σ H R as) : EvAX (tCons te ta) σ H R (a :: as) := fun H1 e Q q =>
  h H1 e _ fun v H2 e2 hv => hr H2 (e.trans e2) _ fun vs H3 e3 hs => q (v :: vs) H3 (e2.trans e3) (.cons (st _ _ _ _ e3 hv) hs)
theorem elx_lst (st : ∀ H H' v a, Ex H H' → R H v a → R H' v a) (h : EvAX ta σ H R as) (hz : as.length ≤ 1000) : EvLQ (tLst ta) σ H (fun ys H' => Paired (R H') ys as) := fun H1 e Q q =>
  h H1 e _ fun vs H2 e2 hs => by
    have hl : vs.length = as.length := Paired.length hs
    exact ⟨sz_of (by omega), fun p hp => q p vs _ (fresh_back e2 hp) (e2.trans (Ex.new hp)) upd_same (L2.Paired.mapP hs fun v a h => st _ _ _ _ (Ex.new hp) h)⟩
theorem eq_lstC {l : List Str} (hz : l.length ≤ 1000) : EvQ (tLst (consT l)) σ H (fun v H' => lstR H' v l) := fun H1 e Q q => el_consT hz H1 e _ fun p H2 _ e2 hx => q _ H2 e2 ⟨p, rfl, hx⟩
end
def fewC : List (List Str) := [[], ["group a"], ["table r a", "table r a"], ["table r b a"], ["table r a", "size r 1"], ["size r 2", "table r a"]]
def dueC : List Res := [.question, .question, .parse 1, .parse 0, .lines ["table r a"], .lines ["table r a", "size r 2"]]
theorem few_due : fewC.map (fun c => toldOf (c.map some)) = dueC := by
  show [toldOf [], toldOf [some "group a"], toldOf [some "table r a", some "table r a"], toldOf [some "table r b a"], toldOf [some "table r a", some "size r 1"], toldOf [some "size r 2", some "table r a"]] = dueC
  rw [told_1, told_2, told_3, told_4, told_5, told_6]
  rfl
theorem few_ok : ∀ c ∈ fewC, c.length ≤ 9 ∧ ∀ z ∈ c, lnOk z := fun c hc => by
  have h := List.all_eq_true.mp (show fewC.all (fun c => decide (c.length ≤ 9) && c.all fun z => decide (z.length ≤ 60) && PyData.strOk z) = true by decide +kernel) c hc
  simp only [Bool.and_eq_true, List.all_eq_true, decide_eq_true_eq] at h
  exact ⟨h.1, fun z hz => h.2 z hz⟩
theorem resR_st : ∀ (H H' : Hp) (v : V) (r : Res), Ex H H' → ResR H v r → ResR H' v r := fun _ _ _ _ e h => resR_n (ext_n e) h
theorem eq_strR {σ : L2.St} {H : Hp} {z : Str} {r : Res} (h : ∀ H', ResR H' (.str z) r) : EvQ (tC (.str z)) σ H (fun v H' => ResR H' v r) := fun H1 _ Q q => q _ H1 (Ex.refl H1) (h H1)
theorem p1 : ∀ H' : Hp, ResR H' (.str "parse 1") (.parse 1) := fun _ => congrArg V.str (show ("parse 1" : Str) = "parse " ++ toS ((1 : Nat) : Int) by decide +kernel)
theorem p0 : ∀ H' : Hp, ResR H' (.str "parse 0") (.parse 0) := fun _ => congrArg V.str (show ("parse 0" : Str) = "parse " ++ toS ((0 : Nat) : Int) by decide +kernel)
theorem due_el {σ : L2.St} {H : Hp} : EvLQ (tLst (tCons (tC (.str "question")) (tCons (tC (.str "question")) (tCons (tC (.str "parse 1")) (tCons (tC (.str "parse 0")) (tCons (tLst (tCons (tC (.str "table r a")) tNil)) (tCons (tLst (tCons (tC (.str "table r a")) (tCons (tC (.str "size r 2")) tNil))) tNil))))))) σ H (fun ys H' => Paired (ResR H') ys dueC) :=
  elx_lst resR_st (eax_cons resR_st (eq_strR fun _ => rfl) (eax_cons resR_st (eq_strR fun _ => rfl) (eax_cons resR_st (eq_strR p1) (eax_cons resR_st (eq_strR p0) (eax_cons resR_st (eq_lstC (l := ["table r a"]) (by decide)) (eax_cons resR_st (eq_lstC (l := ["table r a", "size r 2"]) (by decide)) eax_nil)))))) (by decide)
theorem few_el {σ : L2.St} {H : Hp} : EvLQ (tLst (tCons (tLst tNil) (tCons (tLst (tCons (tC (.str "group a")) tNil)) (tCons (tLst (tCons (tC (.str "table r a")) (tCons (tC (.str "table r a")) tNil))) (tCons (tLst (tCons (tC (.str "table r b a")) tNil)) (tCons (tLst (tCons (tC (.str "table r a")) (tCons (tC (.str "size r 1")) tNil))) (tCons (tLst (tCons (tC (.str "size r 2")) (tCons (tC (.str "table r a")) tNil))) tNil))))))) σ H (fun ys H' => Paired (lstR H') ys fewC) :=
  have st : ∀ (H H' : Hp) (v : V) (c : List Str), Ex H H' → lstR H v c → lstR H' v c := fun _ _ v c e h => lstR_ex e v c h
  elx_lst st (eax_cons st (eq_lstC (l := []) (by decide)) (eax_cons st (eq_lstC (l := ["group a"]) (by decide)) (eax_cons st (eq_lstC (l := ["table r a", "table r a"]) (by decide)) (eax_cons st (eq_lstC (l := ["table r b a"]) (by decide)) (eax_cons st (eq_lstC (l := ["table r a", "size r 1"]) (by decide)) (eax_cons st (eq_lstC (l := ["size r 2", "table r a"]) (by decide)) eax_nil)))))) (by decide)
theorem resR_upd {H : Hp} {v : V} {D : Addr} {u : HO} (hD : ∀ t, v = .ref t → t ≠ D) : ∀ {r : Res}, ResR H v r → ResR (upd H D u) v r
  | .parse _, h => h
  | .question, h => h
  | .lines _, ⟨t, h1, h2⟩ => ⟨t, h1, by rw [upd_ne (hD t h1)]; exact h2⟩
section
variable {K : PySem.W.Frag} {mg : Str → Option Value} {T : Txt K mg} {σ : L2.St} {B : Hp}
theorem src_listG {a : Addr} {xs : List V} {i : Nat} (hv : σ[i]? = some (some (.ref a))) (ha : B a = some (.lst xs)) : ∀ H1, Ex B H1 → ∀ R : It → Hp → Prop, (∀ H2, Ex H1 H2 → R (Itl K a) H2) → iList K (tVar i) σ H1 R := fun H1 e R q =>
  ev_var hv H1 (Ex.refl H1) _ fun H2 e2 => ⟨a, rfl, ⟨xs, SqL.of (e2 _ _ (e _ _ ha))⟩, q H2 e2⟩
/-- [_law_told(l) for l in rows] -/
theorem n_lcTold {a : Addr} {xs : List V} {cs : List (List Str)} {i j : Nat} {vs : List Nat} (nB : NoTab B) (hv : σ[i]? = some (some (.ref a))) (ha : B a = some (.lst xs)) (hx : Paired (lstR B) xs cs) (hz : xs.length ≤ 100) (hc : ∀ c ∈ cs, c.length ≤ 9 ∧ ∀ z ∈ c, lnOk z)
    (hw : ∀ x, wipe ((wipe σ vs).set j (some x)) vs = wipe σ vs) (hj : ∀ x, ((wipe σ vs).set j (some x))[j]? = some (some x)) : ∀ H1, Ex B H1 → LamX.Tabs (tabsT T) H1 → ∀ Q : VK, (∀ p ys H2, LamX.ExtN H1 H2 → H2 p = some (.lst ys) → Paired (fun v c => ResR H2 v (toldOf (c.map some))) ys cs → Q (.ref p) H2) →
      tLc (iList K (tVar i)) (gName j) tYes (tCl (sp__law_told T) (tCons (tVar j) tNil)) vs σ H1 Q := fun H1 e t Q q => by
  refine src_listG (K := K) hv ha H1 e _ fun H2 e2 Dl hD => ?_
  have eB2 := e.trans e2
  have t2 := t.ext e2
  have nBD : B Dl = none := fresh_back eB2 hD
  have nDD : dt H2 Dl = none := by
    cases hh : dt H2 Dl with
    | none => rfl
    | some o => rw [(dt_back hh).1] at hD; cases hD
  refine lc_it walk_list (fun k H' => Ex B H' ∧ LamX.ExtN H2 H' ∧ LamX.Tabs (tabsT T) H' ∧ ∃ ys, H' Dl = some (.lst ys) ∧ Paired (fun v c => ResR H' v (toldOf (c.map some)) ∧ ∀ t, v = .ref t → t ≠ Dl) ys (cs.take k)) ⟨eB2.trans (Ex.new hD), ext_n (Ex.new hD), t2.ext (Ex.new hD), [], upd_same, by rw [List.take_zero]; exact .nil⟩ (fun k H' _ p => SqL.of (p.1 _ _ ha)) (fun k x H' H'' hk p y => ?_) (fun H' p => ?_)
  · obtain ⟨e3, hxk⟩ := y
    subst e3
    obtain ⟨b1, b2, b3, ys, b4, b5⟩ := p
    refine ⟨hw x, et_yes H'' (Ex.refl H'') _ fun H3 e3 => ?_⟩
    rw [if_pos rfl]
    obtain ⟨c, hck, hcx⟩ := paired_get hx hxk
    have hm : c ∈ cs := List.mem_of_getElem? hck
    obtain ⟨c1, c2⟩ := hc c hm
    obtain ⟨p0, rfl, hp0⟩ := hcx
    have eB3 := b1.trans e3
    refine n_toldF (r := toldOf (c.map some)) (B := B) (fun H5 e5 Q' q' => ev_var (hj _) H5 e5 _ fun H6 e6 => q' p0 _ H6 e6 (e6 _ _ (e5 _ _ hp0)) ⟨by rw [List.length_map]; exact c1, c.map some, lns_s c2, rfl⟩) H3 eB3 (b3.ext e3) _ fun v H4 e4 t4 hr hf => ?_
    have h4 := e4 _ _ (e3 _ _ b4) lst_tbl
    have hlen : ys.length ≤ 100 := by
      have h1 : ys.length = (cs.take k).length := Paired.length b5
      have h2 : xs.length = cs.length := Paired.length hx
      rw [List.length_take] at h1
      omega
    have hfD : ∀ s, v = .ref s → s ≠ Dl := fun s es ed => by
      have := hf s es
      rw [ed, dt_some (e3 _ _ b4) lst_tbl] at this
      cases this
    refine ⟨ys, h4, sz_lt (by omega), (ex_nt nB eB3 e4).mut nBD, fun b o hb ht => ?_, tabs_upd h4 t4, ys ++ [v], upd_same, ?_⟩
    · rw [upd_ne (ne_of_none (dt_some hb ht) nDD)]
      exact e4 _ _ (e3 _ _ (b2 _ _ hb ht)) ht
    · have htk : cs.take (k + 1) = cs.take k ++ [c] := by rw [List.take_add_one, hck]; rfl
      rw [htk]
      exact Paired.snoc (L2.Paired.mapP b5 fun w c' hw => ⟨resR_upd hw.2 (resR_n ((ext_n e3).trans e4) hw.1), hw.2⟩) ⟨resR_upd hfD hr, hfD⟩
  · obtain ⟨b1, b2, b3, ys, b4, b5⟩ := p
    have : cs.take xs.length = cs := by rw [Paired.length hx]; exact List.take_length
    rw [this] at b5
    exact q Dl ys H' ((ext_n e2).trans b2) b4 (L2.Paired.mapP b5 fun _ _ h => h.1)
end

end K08

namespace K08
open PySem PySem.Spec PyProof.Rows L2 Evl
/-! ### the law -/
def sp_law {K : PySem.W.Frag} {mg : Str → Option Value} (T : Txt K mg) : Sp := fun vs H Q _ => ∃ (a : Addr) (ns : List Int), vs = [.ref a] ∧ SqL K H a (ns.map V.int) ∧ ns.length ≤ 1000 ∧ LamX.Tabs (tabsT T) H ∧ ∀ H', Q (.bl true) H'
theorem len_law {K : PySem.W.Frag} {mg : Str → Option Value} {T : Txt K mg} : ∀ vs H Q E, sp_law T vs H Q E → vs.length = 1 := fun vs H Q E ⟨_, _, e, _⟩ => by rw [e]; rfl
abbrev lwSt (a : Addr) (x1 x2 x3 x4 x5 x6 x7 x8 : Option V) : L2.St := [some (.ref a), x1, x2, x3, x4, x5, x6, x7, x8]
section
variable {K : PySem.W.Frag} {mg : Str → Option Value} {T : Txt K mg} {H : Hp} {D : Ends} {a p l : Addr} {x1 x3 x4 x5 x6 x7 x8 : Option V} {ls : List Str}
/-- a bent row -/
theorem law_bent_row (t : LamX.Tabs (tabsT T) H) (hD : H p = some (DiceO p)) (hl : H l = some (.lst (ls.map V.str))) (hP : LinesP ls) (k : ∀ x6 H', LamX.ExtN H H' → LamX.Tabs (tabsT T) H' → D.nx (lwSt a x1 (some (.ref p)) x3 (some (.ref l)) x5 x6 x7 x8) H') :
    (tSeq (tAsg (tCl (sp__law_bent K) (tCons (tVar 2) (tCons (tCl (sp__law_mixed K) (tCons (tVar 2) (tCons (tVar 4) tNil))) tNil))) (gName 6))
    (tIfS (tTest (tOp rNe (tCB (rReprT K) (tCons (tCl (sp__law_told T) (tCons (tVar 6) tNil)) tNil)) (tCB (rReprT K) (tCons (tCl (sp__law_read K) (tCons (tVar 6) tNil)) tNil)))) (tRet (tC (.bl false))) tNext)) D (lwSt a x1 (some (.ref p)) x3 (some (.ref l)) x5 x6 x7 x8) H := by
  refine q_asgQ (eq_bent hP (ev_var rfl) hD (ev_var rfl) hl) fun v H1 e1 hv => ?_
  obtain ⟨b, ys, os, rfl, hb, hz, hL⟩ := hv
  have hf : Fine (toldOf os) := fine_told (lnsR_ok hL) (by
    have : ys.length = os.length := Paired.length hL
    omega)
  have hw : ∀ {σ : L2.St}, σ[6]? = some (some (.ref b)) → EvWQ (tVar 6) σ (dt H1) (Tells K (toldOf os)) := fun hs H2 e2 Q q => ev_var hs H2 e2 _ fun H3 e3 => q b ys H3 e3 (e3 _ _ (e2 _ _ (dt_some hb lst_tbl))) ⟨hz, os, hL.ex (ex_dt (noTab_dt _) (e2.trans e3)), rfl⟩
  exact s_ifN (n_neRepr (noTab_dt _) (n_told (hw rfl)) (eq_read (hw rfl)) hf) (t.ext e1) fun H2 e2 t2 => k _ H2 ((ext_n e1).trans e2) t2
/-- one turn -/
theorem law_turn (t : LamX.Tabs (tabsT T) H) (hD : H p = some (DiceO p)) (k : ∀ x4 x5 x6 H', Ex (dt H) H' → LamX.Tabs (tabsT T) H' → D.nx (lwSt a x1 (some (.ref p)) x3 x4 x5 x6 x7 x8) H') :
    (tSeq (tAsg (L2.tSl (rSlL K) (tCl (sp__law_lines K) (tCons (tCl (sp__law_any K) (tCons (tVar 2) (tCons (tC (.int 3)) (tCons (tC (.int 5)) tNil)))) tNil)) tNoPart (tPart (tC (.int 7)))) (gName 4))
    (tSeq (tIfS (tOr (tTest (tOp (rNeD K) (tCl (sp__law_told T) (tCons (tCl (sp__law_mixed K) (tCons (tVar 2) (tCons (tVar 4) tNil))) tNil)) (tCl (sp__law_read K) (tCons (tVar 4) tNil)))) (tTest (tOp (rNeD K) (tCl (sp__law_told T) (tCons (tVar 4) tNil)) (tCl (sp__law_read K) (tCons (tVar 4) tNil))))) (tRet (tC (.bl false))) tNext)
    (tFor (iRng1 (tCons (tC (.int 5)) tNil)) (gName 5)
    (tSeq (tAsg (tCl (sp__law_bent K) (tCons (tVar 2) (tCons (tCl (sp__law_mixed K) (tCons (tVar 2) (tCons (tVar 4) tNil))) tNil))) (gName 6))
    (tIfS (tTest (tOp rNe (tCB (rReprT K) (tCons (tCl (sp__law_told T) (tCons (tVar 6) tNil)) tNil)) (tCB (rReprT K) (tCons (tCl (sp__law_read K) (tCons (tVar 6) tNil)) tNil)))) (tRet (tC (.bl false))) tNext))))) D (lwSt a x1 (some (.ref p)) x3 x4 x5 x6 x7 x8) H := by
  refine q_asgLQ (elq_lines (ev_var rfl) hD) fun l ys H1 hl e1 hx hP => ?_
  obtain ⟨ls, rfl, hP⟩ := hP
  have t1 := t.ext e1
  have nB := noTab_dt H1
  have dB : dt H1 p = some (DiceO p) := dt_some (e1 _ _ hD) dice_tbl
  have lB : dt H1 l = some (.lst (ls.map V.str)) := dt_some hx lst_tbl
  have f := fine_lines hP
  refine q_ifN (n_or nB (n_ne nB (n_told (wq_mixed hP (ev_var rfl) dB (ev_var rfl) lB)) (eq_read (wq_lines hP (ev_var rfl) lB)) f) (n_ne nB (n_told (wq_lines hP (ev_var rfl) lB)) (eq_read (wq_lines hP (ev_var rfl) lB)) f)) t1 fun H2 e2 t2 => ?_
  have eB2 : Ex (dt H1) H2 := ex_nt nB (dt_ex _) e2
  refine s_forR1 (n := 5) (ea_cons ev_c ea_nil) (by decide) (fun i σ' H' => ∃ x5 x6, σ' = lwSt a x1 (some (.ref p)) x3 (some (.ref l)) x5 x6 x7 x8 ∧ Ex (dt H1) H' ∧ LamX.Tabs (tabsT T) H') (fun H3 e3 => ⟨x5, x6, rfl, eB2.trans e3, t2.ext e3⟩) (fun i σ' H' hi p => ?_) (fun σ' H' p => ?_)
  · obtain ⟨y5, y6, rfl, e', t'⟩ := p
    exact law_bent_row (D := { D with nx := fun σ' H' => ∃ x5 x6, σ' = lwSt a x1 (some (.ref p)) x3 (some (.ref l)) x5 x6 x7 x8 ∧ Ex (dt H1) H' ∧ LamX.Tabs (tabsT T) H', ct := _, bk := _ }) t' (e' _ _ dB) (e' _ _ lB) hP fun x6 H5 e5 t5 => ⟨_, x6, rfl, ex_nt nB e' e5, t5⟩
  · obtain ⟨y5, y6, rfl, e', t'⟩ := p
    exact k _ _ _ H' ((dt_n (ext_n e1)).trans e') t'
/-- one cell -/
theorem law_cell {ns : List Int} {i : Nat} (t : LamX.Tabs (tabsT T) H) (hS : SqL K H a (ns.map V.int)) (hi : i ≤ 10) {x2 : Option V} (k : ∀ x2 x3 x4 x5 x6 H', Ex (dt H) H' → LamX.Tabs (tabsT T) H' → D.nx (lwSt a (some (.int (i : Nat))) x2 x3 x4 x5 x6 x7 x8) H') :
    (tSeq (tAsg (tClose (tCl (sp__law_dice K) (tCons (tVar 0) (tCons (tVar 1) tNil)))) (gName 2))
    (tFor (iRng1 (tCons (tC (.int 3)) tNil)) (gName 3)
    (tSeq (tAsg (L2.tSl (rSlL K) (tCl (sp__law_lines K) (tCons (tCl (sp__law_any K) (tCons (tVar 2) (tCons (tC (.int 3)) (tCons (tC (.int 5)) tNil)))) tNil)) tNoPart (tPart (tC (.int 7)))) (gName 4))
    (tSeq (tIfS (tOr (tTest (tOp (rNeD K) (tCl (sp__law_told T) (tCons (tCl (sp__law_mixed K) (tCons (tVar 2) (tCons (tVar 4) tNil))) tNil)) (tCl (sp__law_read K) (tCons (tVar 4) tNil)))) (tTest (tOp (rNeD K) (tCl (sp__law_told T) (tCons (tVar 4) tNil)) (tCl (sp__law_read K) (tCons (tVar 4) tNil))))) (tRet (tC (.bl false))) tNext)
    (tFor (iRng1 (tCons (tC (.int 5)) tNil)) (gName 5)
    (tSeq (tAsg (tCl (sp__law_bent K) (tCons (tVar 2) (tCons (tCl (sp__law_mixed K) (tCons (tVar 2) (tCons (tVar 4) tNil))) tNil))) (gName 6))
    (tIfS (tTest (tOp rNe (tCB (rReprT K) (tCons (tCl (sp__law_told T) (tCons (tVar 6) tNil)) tNil)) (tCB (rReprT K) (tCons (tCl (sp__law_read K) (tCons (tVar 6) tNil)) tNil)))) (tRet (tC (.bl false))) tNext))))))) D (lwSt a (some (.int (i : Nat))) x2 x3 x4 x5 x6 x7 x8) H := by
  refine q_asgQ (P := fun v H' => ∃ p, v = .ref p ∧ H' p = some (DiceO p)) (fun H1 e1 Q' q' => ?_) fun v H1 e1 hv => ?_
  · show (tCons (tVar 0) (tCons (tVar 1) tNil)) _ H1 fun vs H2 => sp__law_dice K vs H2 (fun v H3 => ∃ p a b c, v = .ref p ∧ H3 p = some (dl a b c) ∧ 0 ≤ a ∧ Q' v (upd H3 p (DiceO p))) E0
    exact (ea_cons (ev_var rfl) (ea_cons (ev_var rfl) ea_nil)) H1 e1 _ fun H2 e2 => ⟨a, ns, i, rfl, ex_l (e1.trans e2) hS, hi, fun p H3 x y z hp e3 hx h0 => ⟨p, x, y, z, rfl, hx, h0, q' _ _ (e2.trans (e3.mut hp)) ⟨p, rfl, upd_same⟩⟩⟩
  · obtain ⟨p, rfl, hp⟩ := hv
    have t1 := t.ext e1
    have nB := noTab_dt H1
    have dB : dt H1 p = some (DiceO p) := dt_some hp dice_tbl
    refine s_forR1 (n := 3) (ea_cons ev_c ea_nil) (by decide) (fun j σ' H' => ∃ x3 x4 x5 x6, σ' = lwSt a (some (.int (i : Nat))) (some (.ref p)) x3 x4 x5 x6 x7 x8 ∧ Ex (dt H1) H' ∧ LamX.Tabs (tabsT T) H') (fun H2 e2 => ⟨x3, x4, x5, x6, rfl, (dt_ex _).trans e2, t1.ext e2⟩) (fun j σ' H' hj q => ?_) (fun σ' H' q => ?_)
    · obtain ⟨y3, y4, y5, y6, rfl, e', t'⟩ := q
      exact law_turn (D := { D with nx := fun σ' H' => ∃ x3 x4 x5 x6, σ' = lwSt a (some (.int (i : Nat))) (some (.ref p)) x3 x4 x5 x6 x7 x8 ∧ Ex (dt H1) H' ∧ LamX.Tabs (tabsT T) H', ct := _, bk := _ }) t' (e' _ _ dB) fun y4 y5 y6 H5 e5 t5 => ⟨_, y4, y5, y6, rfl, (ex_dt nB e').trans e5, t5⟩
    · obtain ⟨y3, y4, y5, y6, rfl, e', t'⟩ := q
      exact k _ _ _ _ _ H' ((dt_n (ext_n e1)).trans e') t'
end
theorem dpAll_of {K : PySem.W.Frag} {H : Hp} : ∀ {ys : List V} {rs : List Res}, Paired (ResR H) ys rs → DpAll K H ys (rs.map dOf) := fun h => by
  induction h with
  | nil => exact .nil
  | cons h1 _ ih => exact .cons (resR_dp h1) ih
theorem due_eq : PyData.eqv (.list (dueC.map dOf)) (.list (dueC.map dOf)) = true := by decide +kernel
theorem due_shaped : SeqAt.shaped (.list (dueC.map dOf)) = true := by decide +kernel
theorem pure_law {K : PySem.W.Frag} {mg : Str → Option Value} (T : Txt K mg) {vs : List V} {H : Hp} {Q : VK} {E : XK} (h : sp_law T vs H Q E) : t_law K T { nx := fun _ H' => Q .non H', rt := Q } (start ["_law_script", "_law_spot", "_law_dice_here", "_law_turn", "_law_lines_here", "_law_again", "_law_bent_here", "_law_few", "_law_due"] vs) H := by
  obtain ⟨a, ns, rfl, hS, hz, hT, q⟩ := h
  have nB := noTab_dt H
  have hr := ev_max2 (σ := lwSt a none none none none none none none none) (H := H) (ev_c (v := .int 1)) (ev_min2 (ev_c (v := .int 4)) (ev_len (K := K) (ev_var (i := 0) rfl) hS))
  refine q_forR1 (ea_cons hr ea_nil) (by split <;> split <;> omega) (fun i σ' H' => ∃ x1 x2 x3 x4 x5 x6, σ' = lwSt a x1 x2 x3 x4 x5 x6 none none ∧ Ex (dt H) H' ∧ LamX.Tabs (tabsT T) H') (fun H1 e1 => ⟨none, none, none, none, none, none, rfl, (dt_ex H).trans e1, hT.ext e1⟩) (fun i σ' H' hi p => ?_) (fun σ' H' p => ?_)
  · obtain ⟨x1, x2, x3, x4, x5, x6, rfl, e', t'⟩ := p
    have hi10 : i ≤ 10 := by
      split at hi <;> split at hi <;> omega
    exact law_cell (D := { nx := fun σ' H' => ∃ x1 x2 x3 x4 x5 x6, σ' = lwSt a x1 x2 x3 x4 x5 x6 none none ∧ Ex (dt H) H' ∧ LamX.Tabs (tabsT T) H', rt := Q, ct := _, bk := _ }) t' (ex_l e' (sql_dt hS)) hi10 fun y2 y3 y4 y5 y6 H5 e5 t5 => ⟨_, y2, y3, y4, y5, y6, rfl, (ex_dt nB e').trans e5, t5⟩
  · obtain ⟨x1, x2, x3, x4, x5, x6, rfl, e', t'⟩ := p
    refine q_asgLQ few_el fun f fs H1 hf e1 hx1 hP1 => ?_
    refine q_asgLQ due_el fun g gs H2 hg e2 hx2 hP2 => ?_
    have t2 := t'.ext (e1.trans e2)
    have n2 := noTab_dt H2
    have fP : Paired (lstR (dt H2)) fs fewC := L2.Paired.mapP hP1 fun v c h => by
      obtain ⟨s, h1, h2⟩ := h
      exact ⟨s, h1, dt_some (e2 _ _ h2) lst_tbl⟩
    show tLc (iList K (tVar 7)) (gName 4) tYes (tCl (sp__law_told T) (tCons (tVar 4) tNil)) [4] (lwSt a x1 x2 x3 x4 x5 x6 (some (.ref f)) (some (.ref g))) H2 (fun x H' => tVar 8 (lwSt a x1 x2 x3 x4 x5 x6 (some (.ref f)) (some (.ref g))) H' fun y H'' => rEqD K x y H'' Q)
    refine n_lcTold (σ := lwSt a x1 x2 x3 x4 x5 x6 (some (.ref f)) (some (.ref g))) (i := 7) (j := 4) (vs := [4]) n2 rfl (dt_some (e2 _ _ hx1) lst_tbl) fP (by
      have : fs.length = fewC.length := Paired.length fP
      rw [this]
      decide) few_ok (fun _ => rfl) (fun _ => rfl) H2 (dt_ex _) t2 _ fun r ys H3 e3 hy hP => ?_
    have hg3 := e3 _ _ hx2 lst_tbl
    have p1 : Paired (ResR H3) ys dueC := by
      rw [← few_due]
      clear hy hP2 fP hP1 hx1
      revert hP
      generalize fewC = cs
      intro hP
      induction hP with
      | nil => exact .nil
      | cons h _ ih => exact .cons h ih
    have p2 : Paired (ResR H3) gs dueC := L2.Paired.mapP hP2 fun v c h => resR_n e3 h
    refine ev_var (i := 8) rfl H3 (Ex.refl _) _ fun H4 e4 => ?_
    refine ⟨.list (dueC.map dOf), .list (dueC.map dOf), .lst (SqL.of (e4 _ _ hy)) (dpAll_of (L2.Paired.mapP p1 fun v c h => resR_n (ext_n e4) h)), .lst (SqL.of (e4 _ _ hg3)) (dpAll_of (L2.Paired.mapP p2 fun v c h => resR_n (ext_n e4) h)), due_shaped, due_shaped, ?_⟩
    rw [due_eq]
    exact q H4

end K08

namespace K08
open PySem PySem.Spec PyProof.Rows L2 Evl
/-! ### the end: the law is called from the top, where no repr is under way -/
open LamX
/-- the law's own def -/
structure LawD (K : PySem.W.Frag) (fa : Addr) : Prop where
  ex : ∃ (oc : Value) (od an : Option Addr) (osl : Array (Option Value)) (kV doc pm cdv ct : Value), K.lookup fa = some ⟨oc, od, .func (PySem.W.fnOf "law" "law" (defArgs s_law) (defBody s_law) (defScope s_law) .none kV doc pm an cdv ct), osl⟩ ∧ PySem.W.codeIn K cdv "law" = true
theorem law_run {P : Program} {w : World} {K : PySem.W.Frag} {mg : Str → Option Value} {base : Heap} (T : Txt K mg) (TB : TabB base mg T.l_asked.c T.l_asked.tab) {fa a : Addr} {s : Shared} {H : Hp} {ns : List Int} (L : LawD K fa) (e0 : Env0 P w K mg base callerA [] s H)
    (hS : SqL K H a (ns.map V.int)) (hl : ns.length ≤ 1000) (hT : H T.l_asked.tab = some (.tbl #[])) : codeAny (model P w) callerA (.call (.ref fa) ⟨[.ref a], []⟩) (CR CX0 [] P w H s (fun v _ => v = .bl true) (fun _ _ _ => False)) s := by
  obtain ⟨oc, od, an, osl, kV, doc, pm, cdv, ct, lk, hcd⟩ := L.ex
  refine run_ofS (k := 14) (us := [.ref a]) (vs := [.ref a]) (ps := ["_law_script"]) lk hcd sc_law ⟨rfl, by decide, by decide⟩ e0 (.of_eq rfl) (.cons rfl .nil) rfl fun hr => ⟨t_law K T, (d_law T TB hr rfl).nox, pure_law (E := fun _ _ _ => False) T ⟨a, ns, rfl, hS, hl, fun p hp => ?_, fun _ => rfl⟩⟩
  rw [List.mem_singleton.mp hp]
  exact TabS.nil hT
theorem end_call {P : Program} {w : World} {K : PySem.W.Frag} {mg mb : Str → Option Value} {fa a : Addr} {s : Shared} {vs : List Value} {ns : List Int} (T : Txt K mg) (L : LawD K fa) (KX : K.In s.heap) (G : s.heap.Ns mainGlobals mg) (hb : s.heap.Ns builtinsNs mb) (hbb : ∀ x : Str, x ≠ "__name__" → mb x = bootBuiltins x) (lim : s.heap.NoLimit) (gens : s.gens = #[])
    (hT : s.heap.get? T.l_asked.tab = some { cls := .none, data := .fields #[] }) (nT : K.lookup T.l_asked.tab = none)
    (hbm : ∃ (bm : Addr) (ob : Obj), mg "__builtins__" = some (.ref bm) ∧ bm ≠ builtinsNs ∧ s.heap.get? bm = some ob ∧ ob.cls = .type "module" ∧ ob.dict = some builtinsNs ∧ ob.data = .plain)
    (ha : s.heap.get? a = some { cls := .type "list", data := .seq vs.toArray }) (hi : IntsAre vs ns) (hl : ns.length ≤ 1000) :
    codeAny (model P w) callerA (.call (.ref fa) ⟨[.ref a], []⟩) (fun r s' => r = .ok (.ret (.bool true)) ∧ OldK s.heap s'.heap ∧ s'.os = s.os ∧ AllBare s'.gens) s := by
  have rv := vals_ints hi
  have lenV := hi.length
  generalize htt : T.l_asked.tab = t0 at hT nT
  have nat : a ≠ t0 := fun e => by
    rw [e, hT] at ha
    have z := congrArg Obj.data (Option.some.inj ha)
    cases z
  -- what is known: the table, empty; the script, where the module does not hold it
  let H : Hp := fun b => if b = t0 then some (.tbl #[]) else if b = a ∧ K.lookup a = none then some (.frz { cls := .type "list", data := .seq vs.toArray } (.lst (ns.map V.int))) else none
  have H0 : H t0 = some (.tbl #[]) := if_pos rfl
  have Hn : ∀ b, b ≠ t0 → ¬ (b = a ∧ K.lookup a = none) → H b = none := fun b h1 h2 => (if_neg h1).trans (if_neg h2)
  have Ha : K.lookup a = none → H a = some (.frz { cls := .type "list", data := .seq vs.toArray } (.lst (ns.map V.int))) := fun h => (if_neg nat).trans (if_pos ⟨rfl, h⟩)
  have is : ∀ b u, H b = some u → (b = t0 ∧ u = .tbl #[]) ∨ (b = a ∧ K.lookup a = none ∧ u = .frz { cls := .type "list", data := .seq vs.toArray } (.lst (ns.map V.int))) := fun b u h => by
    by_cases h1 : b = t0
    · subst h1
      rw [H0] at h
      exact .inl ⟨rfl, (Option.some.inj h).symm⟩
    · by_cases h2 : b = a ∧ K.lookup a = none
      · obtain ⟨rfl, h3⟩ := h2
        rw [Ha h3] at h
        exact .inr ⟨rfl, h3, (Option.some.inj h).symm⟩
      · rw [Hn b h1 h2] at h
        cases h
  have off : ∀ {b : Addr} {o : Obj}, s.heap.get? b = some o → (∀ v n, o.data ≠ .seq v n) → o.data ≠ .fields #[] → H b = none := fun {b o} e h1 h2 => Hn b (fun z => by
    rw [z, hT] at e
    cases e
    exact h2 rfl) fun z => by
    rw [z.1, ha] at e
    cases e
    exact h1 _ _ rfl
  have ns_ : ∀ {b : Addr} {m : Str → Option Value}, s.heap.Ns b m → (hidT s.heap H).Ns b m := fun {b m} h => by
    obtain ⟨o, es, ep, e, d, r⟩ := h
    exact ⟨o, es, ep, hidT_get e (off e (fun v n z => by rw [d] at z; cases z) fun z => by rw [d] at z; cases z), d, r⟩
  have Kin : K.In (hidT s.heap H) := fun b o e => hidT_get (KX b o e) (Hn b (fun z => by rw [z, nT] at e; cases e) fun z => by rw [z.1, z.2] at e; cases e)
  have hS : SqL K H a (ns.map V.int) := by
    cases hk : K.lookup a with
    | none => exact .inl (.inr ⟨_, Ha hk⟩)
    | some o =>
      have e := KX a o hk
      rw [ha] at e
      cases e
      exact .inr ⟨_, vs.toArray, _, hk, rfl, rfl, rfl, by rw [List.size_toArray, lenV]; exact sz_of (by omega), by simpa using rv⟩
  have ok : HOk P w H s.heap := fun b u h => by
    rcases is b u h with ⟨rfl, rfl⟩ | ⟨rfl, _, rfl⟩
    · exact hT
    · exact ⟨ha, by rw [List.length_map]; exact sz_of (by omega), vs, _, rv, ha⟩
  obtain ⟨mc, lim1, lim2⟩ := lim
  have e0 : Env0 P w K mg (hidT s.heap H) callerA [] s H := ⟨rfl, ⟨Kin, ns_ G, ⟨mb, ns_ hb, hbb⟩, mc, ns_ lim1, lim2⟩, fun b o e => of_hidT e, Nat.le_of_eq (hidT_size _ _), trivial, fun b h => absurd (show b ∈ ([] : List Addr) from h) (by simp), ok, .of_eq gens⟩
  have TB : TabB (hidT s.heap H) mg T.l_asked.c T.l_asked.tab := by
    refine ⟨T.l_asked.hd _ Kin, ?_, fun z => ?_⟩
    · obtain ⟨bm, ob, b1, b2, b3, b4, b5, b6⟩ := hbm
      refine ⟨bm, ob, b1, b2, fun z => ?_, fun z => ?_, hidT_get b3 (off b3 (fun v n z => by rw [b6] at z; cases z) fun z => by rw [b6] at z; cases z), b4, b5, b6⟩
      · obtain ⟨o, es, ep, e, d, _⟩ := G
        rw [z, e] at b3
        cases b3
        rw [d] at b6
        cases b6
      · rw [z, htt, hT] at b3
        cases b3
        cases b6
    · obtain ⟨o, es, ep, e, d, _⟩ := G
      rw [z, htt, hT] at e
      cases e
      cases d
  refine codeAny_mono (law_run T TB L e0 hS hl (by rw [htt]; exact H0)) fun r s' h => ?_
  cases r with
  | error e => exact False.elim h
  | ok fl =>
    cases fl with
    | next => exact False.elim h
    | brk => exact False.elim h
    | cont => exact False.elim h
    | ret u =>
      obtain ⟨v, H', os, bare, un, ok', r', q⟩ := h
      have q' : v = .bl true := q
      subst q'
      obtain rfl : u = Value.bool true := r'
      have stay : ∀ b o, b ≠ t0 → s.heap.get? b = some o → s'.heap.get? b = some o := fun b o hne e => by
        cases hb : H b with
        | none => exact un.keep b o e hb (by intro z; exact absurd (show b ∈ ([] : List Addr) from z) (by simp)) (by simp)
        | some x =>
          rcases is b x hb with ⟨z, _⟩ | ⟨rfl, _, rfl⟩
          · exact absurd z hne
          · obtain ⟨e1, _⟩ := ok' b _ (un.frzs b _ _ hb)
            rw [ha] at e
            cases e
            exact e1
      obtain ⟨more, hm⟩ := un.tbls t0 #[] H0
      have grown := ok' t0 _ hm
      have CH := T.l_asked.hd _ KX
      rw [htt] at CH
      refine ⟨rfl, ⟨fun b o e => ?_, fun b o e => ?_⟩, os, bare⟩
      · by_cases hb : b = t0
        · subst hb
          rw [hT] at e
          cases e
          exact .inr (.inl ⟨(CH.tab hT).isCodeTable, rfl, #[], more, rfl, by rw [Array.empty_append]; rw [Array.empty_append] at grown; exact grown⟩)
        · exact .inl (stay b o hb e)
      · by_cases hb : b = t0
        · subst hb
          exact ⟨_, grown⟩
        · exact ⟨o, stay b o hb e⟩
theorem law_walk {l : PySem.W.OpenLaw} {q : Program} {loose : List Str} {XP : (Str → Option Value) → Heap → Prop} {YP : World → Heap → Prop} {d : DefRec} {K : Params → PySem.W.Frag} (hn : l.most = some 63) (hdf : d.params.defaults = []) (hY : ∀ (w : World) (h : Heap), YP w h → (K w.params).In h)
    (F : ∀ (w : World) (mg : Str → Option Value) (fa : Addr) (h : Heap), YP w h → (K w.params).In h → h.Ns mainGlobals mg → mg d.name = some (.ref fa) → ∃ T : Txt (K w.params) mg, LawD (K w.params) fa ∧ h.get? T.l_asked.tab = some { cls := .none, data := .fields #[] } ∧ (K w.params).lookup T.l_asked.tab = none) :
    PySem.W.WalkO q loose XP YP l.row.toRowW d [] (fun f vs => PySem.call f vs) :=
  Att.attach_callB hn hdf fun w s₀ s₁ mg mb fa o pm cd doc a vs ns G Y ho hd hcd hmg hobj hints hlen hbits hg => by
    obtain ⟨T, L, h1, h2⟩ := F w mg fa _ Y (hY w _ Y) G.T.g hmg
    exact end_call T L (hY w _ Y) G.T.g G.T.b G.T.builtins G.T.nolimit hg h1 h2 G.T.bmain hobj hints (by omega)
theorem lawD_of {K : PySem.W.Frag} {h : Heap} {mg : Str → Option Value} {fa f : Addr} {oc : Value} {od an : Option Addr} {osl : Array (Option Value)} {kV doc pm cdv ct : Value} (X : K.In h) (G : h.Ns mainGlobals mg) (hfa : mg "law" = some (.ref fa)) (a : PySem.W.nsIn K mainGlobals "law" = some (some (.ref f)))
    (l : K.lookup f = some ⟨oc, od, .func (PySem.W.fnOf "law" "law" (defArgs s_law) (defBody s_law) (defScope s_law) .none kV doc pm an cdv ct), osl⟩) (c : PySem.W.codeIn K cdv "law" = true) : LawD K fa := by
  have e := hfa.symm.trans (PySem.W.mg_of X G a)
  cases e
  exact ⟨⟨oc, od, an, osl, kV, doc, pm, cdv, ct, l, c⟩⟩

end K08

namespace K08
open PySem L2
theorem defA_ex {K : PySem.W.Frag} {h : Heap} {mg : Str → Option Value} {x : Str} {st : Stmt} {f : Addr} {oc : Value} {od an : Option Addr} {osl : Array (Option Value)} {kV doc pm cdv ct : Value} (X : K.In h) (G : h.Ns mainGlobals mg) (a : PySem.W.nsIn K mainGlobals x = some (some (.ref f))) (l : K.lookup f = some ⟨oc, od, .func (PySem.W.fnOf x x (defArgs st) (defBody st) (defScope st) .none kV doc pm an cdv ct), osl⟩) (c : PySem.W.codeIn K cdv x = true) (k : PySem.W.keepIn K (.ref f) = true) : Nonempty (DefA K mg x st) :=
  ⟨⟨f, _, ⟨⟨oc, od, .none, kV, doc, pm, an, cdv, ct, osl, rfl, l, c, .inl ⟨rfl, rfl⟩, .inl rfl⟩, k⟩, PySem.W.mg_of X G a⟩⟩
theorem defC_ex {K : PySem.W.Frag} {h : Heap} {mg : Str → Option Value} {x : Str} {st : Stmt} {f cc P : Addr} {oc : Value} {od an : Option Addr} {osl : Array (Option Value)} {kV doc pm ct : Value} (X : K.In h) (G : h.Ns mainGlobals mg) (a : PySem.W.nsIn K mainGlobals x = some (some (.ref f))) (l : K.lookup f = some ⟨oc, od, .func (PySem.W.fnOf x x (defArgs st) (defBody st) (defScope st) .none kV doc pm an (.ref cc) ct), osl⟩) (c : PySem.W.codeIn K (.ref cc) x = true) (k : PySem.W.keepIn K (.ref f) = true) (hd : ∀ h : Heap, K.In h → PySem.W.CodeHd h cc P) : ∃ d : DefC K mg x st, d.tab = P :=
  ⟨⟨⟨f, _, ⟨⟨oc, od, .none, kV, doc, pm, an, .ref cc, ct, osl, rfl, l, c, .inl ⟨rfl, rfl⟩, .inl rfl⟩, k⟩, PySem.W.mg_of X G a⟩, cc, P, ⟨oc, od, an, osl, kV, doc, pm, ct, l⟩, c, hd⟩, rfl⟩
theorem metA_ex {K : PySem.W.Frag} {h : Heap} {x q : Str} {st : Stmt} {C : Addr} {f : Addr} {oc : Value} {od an : Option Addr} {osl : Array (Option Value)} {kV doc pm cdv ct : Value} (X : K.In h) (a : PySem.W.findIn K (.ref C) x = some (some (.ref f))) (i : PySem.W.isFn K (.ref f) = true) (l : K.lookup f = some ⟨oc, od, .func (PySem.W.fnOf x q (defArgs st) (defBody st) (defScope st) .none kV doc pm an cdv ct), osl⟩) (c : PySem.W.codeIn K cdv q = true) (k : PySem.W.keepIn K (.ref f) = true) : Nonempty (MetA K C x q st []) :=
  ⟨⟨f, _, ⟨⟨oc, od, .none, kV, doc, pm, an, cdv, ct, osl, rfl, l, c, .inl ⟨rfl, rfl⟩, .inl rfl⟩, k⟩, ⟨a, i, k⟩⟩⟩
theorem metK_ex {K : PySem.W.Frag} {h : Heap} {x q y : Str} {st : Stmt} {C D : Addr} {v : V} {u : Value} {f : Addr} {oc : Value} {od an : Option Addr} {osl : Array (Option Value)} {kV doc pm cdv ct : Value} (X : K.In h) (a : PySem.W.findIn K (.ref C) x = some (some (.ref f))) (i : PySem.W.isFn K (.ref f) = true) (l : K.lookup f = some ⟨oc, od, .func (PySem.W.fnOf x q (defArgs st) (defBody st) (defScope st) .none kV doc pm an cdv ct), osl⟩) (c : PySem.W.codeIn K cdv q = true) (k : PySem.W.keepIn K (.ref f) = true) (e : kV = .ref D) (ey : PySem.W.nsIn K D y = some (some u)) (r : RelV v u) : Nonempty (MetA K C x q st [(y, v)]) :=
  ⟨⟨f, _, ⟨⟨oc, od, .none, kV, doc, pm, an, cdv, ct, osl, rfl, l, c, .inl ⟨rfl, rfl⟩, .inr ⟨D, e, fun z hz => by obtain rfl := List.mem_singleton.mp hz; exact ⟨u, ey, r⟩⟩⟩, k⟩, ⟨a, i, k⟩⟩⟩
theorem propA_ex {K : PySem.W.Frag} {h : Heap} {x q : Str} {st : Stmt} {C p : Addr} {rest : List Value} {f : Addr} {oc : Value} {od an : Option Addr} {osl : Array (Option Value)} {kV doc pm cdv ct : Value} (X : K.In h) (at_ : PySem.W.findIn K (.ref C) x = some (some (.ref p))) (get : PySem.W.specialIn K (.ref p) "__get__" = some (some (.builtin "property.__get__"))) (tk : PySem.W.takesIn K (.ref p) = some true) (rc : PySem.W.recIn K p "property" = some (.ref f :: rest)) (l : K.lookup f = some ⟨oc, od, .func (PySem.W.fnOf x q (defArgs st) (defBody st) (defScope st) .none kV doc pm an cdv ct), osl⟩) (c : PySem.W.codeIn K cdv q = true) (k : PySem.W.keepIn K (.ref f) = true) : Nonempty (PropA K C x q st) :=
  ⟨⟨f, _, ⟨⟨oc, od, .none, kV, doc, pm, an, cdv, ct, osl, rfl, l, c, .inl ⟨rfl, rfl⟩, .inl rfl⟩, k⟩, p, at_, get, tk, ⟨_, rc⟩⟩⟩
theorem cmA_ex {K : PySem.W.Frag} {h : Heap} {x q : Str} {st : Stmt} {C p : Addr} {mc : Value} {rest : List Value} {f : Addr} {oc : Value} {od an : Option Addr} {osl : Array (Option Value)} {kV doc pm cdv ct : Value} (X : K.In h) (at_ : PySem.W.findCls K (.ref C) mc x = some (.get (.builtin "classmethod.__get__") (.ref p) .none (.ref C))) (rc : PySem.W.recIn K p "classmethod" = some (.ref f :: rest)) (fi : PySem.W.fnIn K f = true) (l : K.lookup f = some ⟨oc, od, .func (PySem.W.fnOf x q (defArgs st) (defBody st) (defScope st) .none kV doc pm an cdv ct), osl⟩) (c : PySem.W.codeIn K cdv q = true) (k : PySem.W.keepIn K (.ref f) = true) : Nonempty (CmA K C mc x q st) :=
  ⟨⟨f, _, ⟨⟨oc, od, .none, kV, doc, pm, an, cdv, ct, osl, rfl, l, c, .inl ⟨rfl, rfl⟩, .inl rfl⟩, k⟩, p, ⟨at_, ⟨_, rc⟩, fi⟩⟩⟩
theorem slA_ex {K : PySem.W.Frag} {h : Heap} {x : Str} {C p : Addr} {i : Nat} (X : K.In h) (at_ : PySem.W.findIn K (.ref C) x = some (some (.ref p))) (get : PySem.W.specialIn K (.ref p) "__get__" = some (some (.builtin "member_descriptor.__get__"))) (tk : PySem.W.takesIn K (.ref p) = some true) (ty : PySem.W.typeIn K (.ref p) = some (.type "member_descriptor")) (ix : PySem.W.slotIn K p C = some i) (lt : i < 1000) : Nonempty (SlA K C x i) := ⟨⟨p, ⟨at_, get, tk, ty, ix, lt⟩⟩⟩
theorem txt_ex {K : PySem.W.Frag} {h : Heap} {mg : Str → Option Value} {cIR cIQ cP cL cR cQ : Addr} (X : K.In h) (G : h.Ns mainGlobals mg)
    (x_is_integer : Nonempty (DefA K mg "is_integer" s_is_integer))
    (x_is_name : Nonempty (DefA K mg "is_name" s_is_name))
    (x_are_names : Nonempty (DefA K mg "are_names" s_are_names))
    (x_common_divisor : Nonempty (DefA K mg "common_divisor" s_common_divisor))
    (x_integer_in : Nonempty (DefA K mg "integer_in" s_integer_in))
    (x_are_columns : Nonempty (DefA K mg "are_columns" s_are_columns))
    (x_is_size : Nonempty (DefA K mg "is_size" s_is_size))
    (x_columns_of : Nonempty (DefA K mg "columns_of" s_columns_of))
    (x_are_tables : Nonempty (DefA K mg "are_tables" s_are_tables))
    (x_are_parts : Nonempty (DefA K mg "are_parts" s_are_parts))
    (x_ratio_in : Nonempty (DefA K mg "ratio_in" s_ratio_in))
    (x_l_dice : Nonempty (DefA K mg "_law_dice" s__law_dice))
    (x_l_roll : Nonempty (DefA K mg "_law_roll" s__law_roll))
    (x_l_pick : Nonempty (DefA K mg "_law_pick" s__law_pick))
    (x_l_mixed : Nonempty (DefA K mg "_law_mixed" s__law_mixed))
    (x_l_plain : Nonempty (DefA K mg "_law_plain" s__law_plain))
    (x_l_names : Nonempty (DefA K mg "_law_names" s__law_names))
    (x_l_columns : Nonempty (DefA K mg "_law_columns" s__law_columns))
    (x_l_written : Nonempty (DefA K mg "_law_written" s__law_written))
    (x_l_drawn : Nonempty (DefA K mg "_law_drawn" s__law_drawn))
    (x_l_any : Nonempty (DefA K mg "_law_any" s__law_any))
    (x_l_less : Nonempty (DefA K mg "_law_less" s__law_less))
    (x_l_lowest : Nonempty (DefA K mg "_law_lowest" s__law_lowest))
    (x_l_ratio_text : Nonempty (DefA K mg "_law_ratio_text" s__law_ratio_text))
    (x_l_lines : Nonempty (DefA K mg "_law_lines" s__law_lines))
    (x_l_asked : ∃ d : DefC K mg "_law_asked" s__law_asked, d.tab = 585)
    (x_l_told : Nonempty (DefA K mg "_law_told" s__law_told))
    (x_l_is_name : Nonempty (DefA K mg "_law_is_name" s__law_is_name))
    (x_l_are_names : Nonempty (DefA K mg "_law_are_names" s__law_are_names))
    (x_l_ratio : Nonempty (DefA K mg "_law_ratio" s__law_ratio))
    (x_l_read : Nonempty (DefA K mg "_law_read" s__law_read))
    (x_l_other_line : Nonempty (DefA K mg "_law_other_line" s__law_other_line))
    (x_l_bent : Nonempty (DefA K mg "_law_bent" s__law_bent))
    (g_InvalidRatio : PySem.W.nsIn K mainGlobals "InvalidRatio" = some (some (.ref cIR)))
    (e_InvalidRatio : PySem.W.excIn K cIR [.type "ValueError", .type "Exception", .type "BaseException", .type "object"] "ValueError.__new__" = true)
    (k_InvalidRatio : PySem.W.keepIn K (.ref cIR) = true)
    (s_InvalidRatio : PySem.W.subIn K (.ref cIR) (.type "BaseException") = some true)
    (t_InvalidRatio : PySem.W.typeIn K (.ref cIR) = some (.type "type"))
    (g_InvalidQuestion : PySem.W.nsIn K mainGlobals "InvalidQuestion" = some (some (.ref cIQ)))
    (e_InvalidQuestion : PySem.W.excIn K cIQ [.type "ValueError", .type "Exception", .type "BaseException", .type "object"] "ValueError.__new__" = true)
    (k_InvalidQuestion : PySem.W.keepIn K (.ref cIQ) = true)
    (s_InvalidQuestion : PySem.W.subIn K (.ref cIQ) (.type "BaseException") = some true)
    (t_InvalidQuestion : PySem.W.typeIn K (.ref cIQ) = some (.type "type"))
    (g_peG : PySem.W.nsIn K mainGlobals "ParseError" = some (some (.ref cP)))
    {nm q : Str} {N : Addr} {bs bm : List Value} {sn : List Str} {sb : List Value} {ab : Bool} {col : Option Bool} {dd : Option Addr} {m0 m1 m2 m3 m5 : Option Value}
    (o1 : K.lookup cP = some (excClassObj nm q cP N bs bm true sn sb ab col dd m0 m1 m2 m3 m5 "ValueError.__new__"))
    (o2 : PySem.HandSPX.refsVE bm = true)
    (o3 : PySem.W.findIn K (.ref cP) "__setattr__" = some (some (.builtin "object.__setattr__")))
    (o4 : PySem.W.subIn K (.ref cP) (.type "BaseException") = some true)
    (o5 : PySem.W.typeIn K (.ref cP) = some (.type "type"))
    (o6 : PySem.W.keepIn K (.ref cP) = true)
    (v1 : PySem.W.findIn K (.ref cP) "__getattribute__" = some (some (.builtin "BaseException.__getattribute__")))
    (v2 : PySem.W.findIn K (.ref cP) "__getattr__" = some none)
    (v4 : PySem.W.hasDictIn K cP = true)
    (peN0 : PySem.W.findIn K (.ref cP) "number" = some none)
    (x_peI : Nonempty (MetA K cP "__init__" "ParseError.__init__" s_ParseError_init []))
    (exRR0 : PySem.W.exmOne K (.ref cIR) (.ref cIR) = some true)
    (exPP0 : PySem.W.exmOne K (.ref cP) (.ref cP) = some true)
    (exQP0 : PySem.W.exmOne K (.ref cIQ) (.ref cP) = some false)
    (exQQ0 : PySem.W.exmOne K (.ref cIQ) (.ref cIQ) = some true)
    (g_Ratio : PySem.W.nsIn K mainGlobals "Ratio" = some (some (.ref cR)))
    (a_Ratio : PySem.W.plainGet K cR Str.empty = true)
    (b_Ratio : PySem.W.isClsIn K cR = true)
    (c_Ratio : PySem.W.plainOver K cR = true)
    (d_Ratio : PySem.W.findIn K (.ref cR) "__setattr__" = some (some (.builtin "object.__setattr__")))
    (ca_Ratio : PySem.W.findIn K (.ref cR) "__class__" = some (some (.builtin "object.__class__")))
    (cn_Ratio : PySem.W.specialIn K (.builtin "object.__class__") "__get__" = some (some (.builtin "getset_descriptor.__get__")))
    (ct_Ratio : PySem.W.takesIn K (.builtin "object.__class__") = some true)
    (cm_Ratio : PySem.W.mroIn K cR (.type "object") = some true)
    (rd_Ratio : PySem.W.readsIn K cR (.type "type") = true)
    (ga_Ratio : PySem.W.specialIn K (.ref cR) "__getattribute__" = some (some (.builtin "type.__getattribute__")))
    (mk_Ratio : PySem.W.makesIn K cR = true)
    (kc_Ratio : PySem.W.keepIn K (.ref cR) = true)
    (x_ratTop : Nonempty (SlA K cR "own_top" 1))
    (x_ratBot : Nonempty (SlA K cR "own_bottom" 0))
    (x_Ratio_init : Nonempty (MetA K cR "__init__" "Ratio.__init__" s_Ratio_init [("is_exact", .bl false)]))
    (x_Ratio_of_text : Nonempty (CmA K cR (.type "type") "of_text" "Ratio.of_text" s_Ratio_of_text))
    (x_Ratio_top : Nonempty (PropA K cR "top" "Ratio.top" s_Ratio_top))
    (x_Ratio_bottom : Nonempty (PropA K cR "bottom" "Ratio.bottom" s_Ratio_bottom))
    (x_Ratio_eq : Nonempty (MetA K cR "__eq__" "Ratio.__eq__" s_Ratio_eq []))
    (x_Ratio_str : Nonempty (MetA K cR "__str__" "Ratio.__str__" s_Ratio_str []))
    (ratKit0 : PySem.W.kitOne K (.ref cR) (.ref cR) = some true)
    (ratNF0 : PySem.W.notFirst K cR (.ref cR) = true)
    (ratFmt0 : PySem.W.findIn K (.ref cR) "__format__" = some (some (.builtin "object.__format__")))
    (ratNe0 : PySem.W.findIn K (.ref cR) "__ne__" = some (some (.builtin "object.__ne__")))
    (g_qlG : PySem.W.nsIn K mainGlobals "QuestionLines" = some (some (.ref cL)))
    (w1 : PySem.W.plainGet K cL Str.empty = true)
    (w2 : PySem.W.hasDictIn K cL = true)
    (w3 : PySem.W.plainOver K cL = true)
    (w4 : PySem.W.findIn K (.ref cL) "__setattr__" = some (some (.builtin "object.__setattr__")))
    (qlMk0 : PySem.W.makesIn K cL = true)
    (qlK0 : PySem.W.keepIn K (.ref cL) = true)
    (qlT0 : PySem.W.findIn K (.ref cL) "own_tables" = some none)
    (qlS0 : PySem.W.findIn K (.ref cL) "own_sizes" = some none)
    (qlP0 : PySem.W.findIn K (.ref cL) "own_groups" = some none)
    (x_QuestionLines_init : Nonempty (MetA K cL "__init__" "QuestionLines.__init__" s_QuestionLines_init []))
    (x_QuestionLines_takes_line : Nonempty (MetA K cL "takes_line" "QuestionLines.takes_line" s_QuestionLines_takes_line []))
    (x_QuestionLines_takes_table : Nonempty (MetA K cL "takes_table" "QuestionLines.takes_table" s_QuestionLines_takes_table []))
    (x_QuestionLines_takes_size : Nonempty (MetA K cL "takes_size" "QuestionLines.takes_size" s_QuestionLines_takes_size []))
    (x_QuestionLines_takes_groups : Nonempty (MetA K cL "takes_groups" "QuestionLines.takes_groups" s_QuestionLines_takes_groups []))
    (x_QuestionLines_whole : Nonempty (MetA K cL "whole" "QuestionLines.whole" s_QuestionLines_whole []))
    (g_Question : PySem.W.nsIn K mainGlobals "Question" = some (some (.ref cQ)))
    (a_Question : PySem.W.plainGet K cQ Str.empty = true)
    (b_Question : PySem.W.isClsIn K cQ = true)
    (c_Question : PySem.W.plainOver K cQ = true)
    (d_Question : PySem.W.findIn K (.ref cQ) "__setattr__" = some (some (.builtin "object.__setattr__")))
    (ca_Question : PySem.W.findIn K (.ref cQ) "__class__" = some (some (.builtin "object.__class__")))
    (cn_Question : PySem.W.specialIn K (.builtin "object.__class__") "__get__" = some (some (.builtin "getset_descriptor.__get__")))
    (ct_Question : PySem.W.takesIn K (.builtin "object.__class__") = some true)
    (cm_Question : PySem.W.mroIn K cQ (.type "object") = some true)
    (rd_Question : PySem.W.readsIn K cQ (.type "type") = true)
    (ga_Question : PySem.W.specialIn K (.ref cQ) "__getattribute__" = some (some (.builtin "type.__getattribute__")))
    (mk_Question : PySem.W.makesIn K cQ = true)
    (kc_Question : PySem.W.keepIn K (.ref cQ) = true)
    (x_qs0 : Nonempty (SlA K cQ "own_columns" 0))
    (x_qs1 : Nonempty (SlA K cQ "own_groups" 1))
    (x_qs2 : Nonempty (SlA K cQ "own_lines" 2))
    (x_qs3 : Nonempty (SlA K cQ "own_sizes" 3))
    (x_qs4 : Nonempty (SlA K cQ "own_tables" 4))
    (x_Question_init : Nonempty (MetA K cQ "__init__" "Question.__init__" s_Question_init [("sizes", .non)]))
    (x_Question_from_lines : Nonempty (CmA K cQ (.type "type") "from_lines" "Question.from_lines" s_Question_from_lines))
    (x_Question_lines : Nonempty (PropA K cQ "lines" "Question.lines" s_Question_lines))
    {u_MAX_LETTERS : Value}
    (ak_MAX_LETTERS : PySem.W.nsIn K mainGlobals "MAX_LETTERS" = some (some u_MAX_LETTERS))
    (rk_MAX_LETTERS : RelV (.int 8) u_MAX_LETTERS)
    {u_MAX_FIGURES : Value}
    (ak_MAX_FIGURES : PySem.W.nsIn K mainGlobals "MAX_FIGURES" = some (some u_MAX_FIGURES))
    (rk_MAX_FIGURES : RelV (.int 60) u_MAX_FIGURES)
    {u_ALPHABET : Value}
    (ak_ALPHABET : PySem.W.nsIn K mainGlobals "ALPHABET" = some (some u_ALPHABET))
    (rk_ALPHABET : RelV (.str "abcdefghijklmnopqrstuvwxyz") u_ALPHABET)
    {u_LIMIT : Value}
    (ak_LIMIT : PySem.W.nsIn K mainGlobals "LIMIT" = some (some u_LIMIT))
    (rk_LIMIT : RelV (.int (10 ^ 60)) u_LIMIT)
    {u_FIGURES : Value}
    (ak_FIGURES : PySem.W.nsIn K mainGlobals "FIGURES" = some (some u_FIGURES))
    (rk_FIGURES : RelV (.str "0123456789") u_FIGURES)
    {u_MAX_TABLES : Value}
    (ak_MAX_TABLES : PySem.W.nsIn K mainGlobals "MAX_TABLES" = some (some u_MAX_TABLES))
    (rk_MAX_TABLES : RelV (.int 6) u_MAX_TABLES)
    {u_MAX_COLUMNS : Value}
    (ak_MAX_COLUMNS : PySem.W.nsIn K mainGlobals "MAX_COLUMNS" = some (some u_MAX_COLUMNS))
    (rk_MAX_COLUMNS : RelV (.int 8) u_MAX_COLUMNS)
    {u_MAX_SIZE : Value}
    (ak_MAX_SIZE : PySem.W.nsIn K mainGlobals "MAX_SIZE" = some (some u_MAX_SIZE))
    (rk_MAX_SIZE : RelV (.int 9) u_MAX_SIZE)
    {u_MAX_BOTTOM : Value}
    (ak_MAX_BOTTOM : PySem.W.nsIn K mainGlobals "MAX_BOTTOM" = some (some u_MAX_BOTTOM))
    (rk_MAX_BOTTOM : RelV (.int 60) u_MAX_BOTTOM)
    {u_MOST : Value}
    (ak_MOST : PySem.W.nsIn K mainGlobals "MOST" = some (some u_MOST))
    (rk_MOST : RelV (.int 6) u_MOST)
    {u_TABLE : Value}
    (ak_TABLE : PySem.W.nsIn K mainGlobals "TABLE" = some (some u_TABLE))
    (rk_TABLE : RelV (.str "table") u_TABLE)
    {u_SIZE : Value}
    (ak_SIZE : PySem.W.nsIn K mainGlobals "SIZE" = some (some u_SIZE))
    (rk_SIZE : RelV (.str "size") u_SIZE)
    {u_GROUP : Value}
    (ak_GROUP : PySem.W.nsIn K mainGlobals "GROUP" = some (some u_GROUP))
    (rk_GROUP : RelV (.str "group") u_GROUP)
    (ab_isinstance : PySem.W.nsIn K mainGlobals "isinstance" = some none)
    (ab_len : PySem.W.nsIn K mainGlobals "len" = some none)
    (ab_all : PySem.W.nsIn K mainGlobals "all" = some none)
    (ab_zip : PySem.W.nsIn K mainGlobals "zip" = some none)
    (ab_str : PySem.W.nsIn K mainGlobals "str" = some none)
    (ab_int : PySem.W.nsIn K mainGlobals "int" = some none)
    (ab_bool : PySem.W.nsIn K mainGlobals "bool" = some none)
    (ab_tuple : PySem.W.nsIn K mainGlobals "tuple" = some none)
    (ab_dict : PySem.W.nsIn K mainGlobals "dict" = some none)
    (ab_list : PySem.W.nsIn K mainGlobals "list" = some none)
    (ab_set : PySem.W.nsIn K mainGlobals "set" = some none)
    (ab_sorted : PySem.W.nsIn K mainGlobals "sorted" = some none)
    (ab_abs : PySem.W.nsIn K mainGlobals "abs" = some none)
    (ab_max : PySem.W.nsIn K mainGlobals "max" = some none)
    (ab_min : PySem.W.nsIn K mainGlobals "min" = some none)
    (ab_range : PySem.W.nsIn K mainGlobals "range" = some none)
    (ab_enumerate : PySem.W.nsIn K mainGlobals "enumerate" = some none)
    (ab_repr : PySem.W.nsIn K mainGlobals "repr" = some none)
    (ab_ValueError : PySem.W.nsIn K mainGlobals "ValueError" = some none)
    {R : Prop} (kk : Txt K mg → R) : R := by
  obtain ⟨y_is_integer⟩ := x_is_integer
  obtain ⟨y_is_name⟩ := x_is_name
  obtain ⟨y_are_names⟩ := x_are_names
  obtain ⟨y_common_divisor⟩ := x_common_divisor
  obtain ⟨y_integer_in⟩ := x_integer_in
  obtain ⟨y_are_columns⟩ := x_are_columns
  obtain ⟨y_is_size⟩ := x_is_size
  obtain ⟨y_columns_of⟩ := x_columns_of
  obtain ⟨y_are_tables⟩ := x_are_tables
  obtain ⟨y_are_parts⟩ := x_are_parts
  obtain ⟨y_ratio_in⟩ := x_ratio_in
  obtain ⟨y_l_dice⟩ := x_l_dice
  obtain ⟨y_l_roll⟩ := x_l_roll
  obtain ⟨y_l_pick⟩ := x_l_pick
  obtain ⟨y_l_mixed⟩ := x_l_mixed
  obtain ⟨y_l_plain⟩ := x_l_plain
  obtain ⟨y_l_names⟩ := x_l_names
  obtain ⟨y_l_columns⟩ := x_l_columns
  obtain ⟨y_l_written⟩ := x_l_written
  obtain ⟨y_l_drawn⟩ := x_l_drawn
  obtain ⟨y_l_any⟩ := x_l_any
  obtain ⟨y_l_less⟩ := x_l_less
  obtain ⟨y_l_lowest⟩ := x_l_lowest
  obtain ⟨y_l_ratio_text⟩ := x_l_ratio_text
  obtain ⟨y_l_lines⟩ := x_l_lines
  obtain ⟨y_l_asked, z_l_asked⟩ := x_l_asked
  obtain ⟨y_l_told⟩ := x_l_told
  obtain ⟨y_l_is_name⟩ := x_l_is_name
  obtain ⟨y_l_are_names⟩ := x_l_are_names
  obtain ⟨y_l_ratio⟩ := x_l_ratio
  obtain ⟨y_l_read⟩ := x_l_read
  obtain ⟨y_l_other_line⟩ := x_l_other_line
  obtain ⟨y_l_bent⟩ := x_l_bent
  obtain ⟨y_peI⟩ := x_peI
  obtain ⟨y_ratTop⟩ := x_ratTop
  obtain ⟨y_ratBot⟩ := x_ratBot
  obtain ⟨y_Ratio_init⟩ := x_Ratio_init
  obtain ⟨y_Ratio_of_text⟩ := x_Ratio_of_text
  obtain ⟨y_Ratio_top⟩ := x_Ratio_top
  obtain ⟨y_Ratio_bottom⟩ := x_Ratio_bottom
  obtain ⟨y_Ratio_eq⟩ := x_Ratio_eq
  obtain ⟨y_Ratio_str⟩ := x_Ratio_str
  obtain ⟨y_QuestionLines_init⟩ := x_QuestionLines_init
  obtain ⟨y_QuestionLines_takes_line⟩ := x_QuestionLines_takes_line
  obtain ⟨y_QuestionLines_takes_table⟩ := x_QuestionLines_takes_table
  obtain ⟨y_QuestionLines_takes_size⟩ := x_QuestionLines_takes_size
  obtain ⟨y_QuestionLines_takes_groups⟩ := x_QuestionLines_takes_groups
  obtain ⟨y_QuestionLines_whole⟩ := x_QuestionLines_whole
  obtain ⟨y_qs0⟩ := x_qs0
  obtain ⟨y_qs1⟩ := x_qs1
  obtain ⟨y_qs2⟩ := x_qs2
  obtain ⟨y_qs3⟩ := x_qs3
  obtain ⟨y_qs4⟩ := x_qs4
  obtain ⟨y_Question_init⟩ := x_Question_init
  obtain ⟨y_Question_from_lines⟩ := x_Question_from_lines
  obtain ⟨y_Question_lines⟩ := x_Question_lines
  exact kk (Txt.mk (y_is_integer)
    (y_is_name)
    (y_are_names)
    (y_common_divisor)
    (y_integer_in)
    (y_are_columns)
    (y_is_size)
    (y_columns_of)
    (y_are_tables)
    (y_are_parts)
    (y_ratio_in)
    (y_l_dice)
    (y_l_roll)
    (y_l_pick)
    (y_l_mixed)
    (y_l_plain)
    (y_l_names)
    (y_l_columns)
    (y_l_written)
    (y_l_drawn)
    (y_l_any)
    (y_l_less)
    (y_l_lowest)
    (y_l_ratio_text)
    (y_l_lines)
    (y_l_asked)
    (y_l_told)
    (y_l_is_name)
    (y_l_are_names)
    (y_l_ratio)
    (y_l_read)
    (y_l_other_line)
    (y_l_bent)
    (z_l_asked)
    (⟨cIR, PySem.W.mg_of X G g_InvalidRatio, e_InvalidRatio, k_InvalidRatio, s_InvalidRatio, t_InvalidRatio⟩)
    (⟨cIQ, PySem.W.mg_of X G g_InvalidQuestion, e_InvalidQuestion, k_InvalidQuestion, s_InvalidQuestion, t_InvalidQuestion⟩)
    (cP)
    (PySem.W.mg_of X G g_peG)
    (⟨⟨nm, q, N, bs, bm, sn, sb, ab, col, dd, m0, m1, m2, m3, m5, o1, o2⟩, o3, o4, o5, o6⟩)
    (⟨v1, v2, o4, v4⟩)
    (peN0)
    (y_peI)
    (exRR0)
    (exPP0)
    (exQP0)
    (exQQ0)
    (⟨cR, PySem.W.mg_of X G g_Ratio, ⟨a_Ratio, b_Ratio, c_Ratio, d_Ratio⟩, ⟨ca_Ratio, cn_Ratio, ct_Ratio, cm_Ratio⟩, ⟨rd_Ratio, ga_Ratio⟩, mk_Ratio, kc_Ratio⟩)
    (y_ratTop)
    (y_ratBot)
    (y_Ratio_init)
    (y_Ratio_of_text)
    (y_Ratio_top)
    (y_Ratio_bottom)
    (y_Ratio_eq)
    (y_Ratio_str)
    (ratKit0)
    (ratNF0)
    (ratFmt0)
    (ratNe0)
    (cL)
    (PySem.W.mg_of X G g_qlG)
    (⟨w1, w2, w3, w4⟩)
    (qlMk0)
    (qlK0)
    (qlT0)
    (qlS0)
    (qlP0)
    (y_QuestionLines_init)
    (y_QuestionLines_takes_line)
    (y_QuestionLines_takes_table)
    (y_QuestionLines_takes_size)
    (y_QuestionLines_takes_groups)
    (y_QuestionLines_whole)
    (⟨cQ, PySem.W.mg_of X G g_Question, ⟨a_Question, b_Question, c_Question, d_Question⟩, ⟨ca_Question, cn_Question, ct_Question, cm_Question⟩, ⟨rd_Question, ga_Question⟩, mk_Question, kc_Question⟩)
    (y_qs0)
    (y_qs1)
    (y_qs2)
    (y_qs3)
    (y_qs4)
    (y_Question_init)
    (y_Question_from_lines)
    (y_Question_lines)
    (⟨_, PySem.W.mg_of X G ak_MAX_LETTERS, rk_MAX_LETTERS⟩)
    (⟨_, PySem.W.mg_of X G ak_MAX_FIGURES, rk_MAX_FIGURES⟩)
    (⟨_, PySem.W.mg_of X G ak_ALPHABET, rk_ALPHABET⟩)
    (⟨_, PySem.W.mg_of X G ak_LIMIT, rk_LIMIT⟩)
    (⟨_, PySem.W.mg_of X G ak_FIGURES, rk_FIGURES⟩)
    (⟨_, PySem.W.mg_of X G ak_MAX_TABLES, rk_MAX_TABLES⟩)
    (⟨_, PySem.W.mg_of X G ak_MAX_COLUMNS, rk_MAX_COLUMNS⟩)
    (⟨_, PySem.W.mg_of X G ak_MAX_SIZE, rk_MAX_SIZE⟩)
    (⟨_, PySem.W.mg_of X G ak_MAX_BOTTOM, rk_MAX_BOTTOM⟩)
    (⟨_, PySem.W.mg_of X G ak_MOST, rk_MOST⟩)
    (⟨_, PySem.W.mg_of X G ak_TABLE, rk_TABLE⟩)
    (⟨_, PySem.W.mg_of X G ak_SIZE, rk_SIZE⟩)
    (⟨_, PySem.W.mg_of X G ak_GROUP, rk_GROUP⟩)
    (PySem.W.mg_none_of X G ab_isinstance)
    (PySem.W.mg_none_of X G ab_len)
    (PySem.W.mg_none_of X G ab_all)
    (PySem.W.mg_none_of X G ab_zip)
    (PySem.W.mg_none_of X G ab_str)
    (PySem.W.mg_none_of X G ab_int)
    (PySem.W.mg_none_of X G ab_bool)
    (PySem.W.mg_none_of X G ab_tuple)
    (PySem.W.mg_none_of X G ab_dict)
    (PySem.W.mg_none_of X G ab_list)
    (PySem.W.mg_none_of X G ab_set)
    (PySem.W.mg_none_of X G ab_sorted)
    (PySem.W.mg_none_of X G ab_abs)
    (PySem.W.mg_none_of X G ab_max)
    (PySem.W.mg_none_of X G ab_min)
    (PySem.W.mg_none_of X G ab_range)
    (PySem.W.mg_none_of X G ab_enumerate)
    (PySem.W.mg_none_of X G ab_repr)
    (PySem.W.mg_none_of X G ab_ValueError))
end K08

end
open PySem PySem.W PyProof.Rows
set_option maxRecDepth 100000 in
set_option maxHeartbeats 0 in
theorem PySem.Challenge.cw_touchrows_k08_whole_lines_of_questions_holds : PySem.Challenge.rw_touchrows_k08_whole_lines_of_questions.Holds := by
  w_on; o_law; k_head; (case hw => w_witness2)
  k_fill
  refine K08.law_walk (l := PySem.Challenge.rw_touchrows_k08_whole_lines_of_questions) rfl rfl (fun w h Y => PySem.W.km_in_of Y) ?F
  case F =>
    intro w mg fa h Y KX G hmg
    have hT := PySem.W.km_tabs_of Y 585 List.mem_cons_self
    refine' K08.txt_ex KX G ?x_is_integer ?x_is_name ?x_are_names ?x_common_divisor ?x_integer_in ?x_are_columns ?x_is_size ?x_columns_of ?x_are_tables ?x_are_parts ?x_ratio_in ?x_l_dice ?x_l_roll ?x_l_pick ?x_l_mixed ?x_l_plain ?x_l_names ?x_l_columns ?x_l_written ?x_l_drawn ?x_l_any ?x_l_less ?x_l_lowest ?x_l_ratio_text ?x_l_lines ?x_l_asked ?x_l_told ?x_l_is_name ?x_l_are_names ?x_l_ratio ?x_l_read ?x_l_other_line ?x_l_bent ?g_InvalidRatio ?e_InvalidRatio ?k_InvalidRatio ?s_InvalidRatio ?t_InvalidRatio ?g_InvalidQuestion ?e_InvalidQuestion ?k_InvalidQuestion ?s_InvalidQuestion ?t_InvalidQuestion ?g_peG ?o1 ?o2 ?o3 ?o4 ?o5 ?o6 ?v1 ?v2 ?v4 ?peN0 ?x_peI ?exRR0 ?exPP0 ?exQP0 ?exQQ0 ?g_Ratio ?a_Ratio ?b_Ratio ?c_Ratio ?d_Ratio ?ca_Ratio ?cn_Ratio ?ct_Ratio ?cm_Ratio ?rd_Ratio ?ga_Ratio ?mk_Ratio ?kc_Ratio ?x_ratTop ?x_ratBot ?x_Ratio_init ?x_Ratio_of_text ?x_Ratio_top ?x_Ratio_bottom ?x_Ratio_eq ?x_Ratio_str ?ratKit0 ?ratNF0 ?ratFmt0 ?ratNe0 ?g_qlG ?w1 ?w2 ?w3 ?w4 ?qlMk0 ?qlK0 ?qlT0 ?qlS0 ?qlP0 ?x_QuestionLines_init ?x_QuestionLines_takes_line ?x_QuestionLines_takes_table ?x_QuestionLines_takes_size ?x_QuestionLines_takes_groups ?x_QuestionLines_whole ?g_Question ?a_Question ?b_Question ?c_Question ?d_Question ?ca_Question ?cn_Question ?ct_Question ?cm_Question ?rd_Question ?ga_Question ?mk_Question ?kc_Question ?x_qs0 ?x_qs1 ?x_qs2 ?x_qs3 ?x_qs4 ?x_Question_init ?x_Question_from_lines ?x_Question_lines ?ak_MAX_LETTERS ?rk_MAX_LETTERS ?ak_MAX_FIGURES ?rk_MAX_FIGURES ?ak_ALPHABET ?rk_ALPHABET ?ak_LIMIT ?rk_LIMIT ?ak_FIGURES ?rk_FIGURES ?ak_MAX_TABLES ?rk_MAX_TABLES ?ak_MAX_COLUMNS ?rk_MAX_COLUMNS ?ak_MAX_SIZE ?rk_MAX_SIZE ?ak_MAX_BOTTOM ?rk_MAX_BOTTOM ?ak_MOST ?rk_MOST ?ak_TABLE ?rk_TABLE ?ak_SIZE ?rk_SIZE ?ak_GROUP ?rk_GROUP ?ab_isinstance ?ab_len ?ab_all ?ab_zip ?ab_str ?ab_int ?ab_bool ?ab_tuple ?ab_dict ?ab_list ?ab_set ?ab_sorted ?ab_abs ?ab_max ?ab_min ?ab_range ?ab_enumerate ?ab_repr ?ab_ValueError ?kk
    (case g_InvalidRatio => k_is)
    (case g_InvalidQuestion => k_is)
    (case g_peG => k_is)
    (case g_Ratio => k_is)
    (case g_qlG => k_is)
    (case g_Question => k_is)
    (case x_is_integer => exact K08.defA_ex KX G (by k_is) (by k_is) (by k_is) (by k_is))
    (case x_is_name => exact K08.defA_ex KX G (by k_is) (by k_is) (by k_is) (by k_is))
    (case x_are_names => exact K08.defA_ex KX G (by k_is) (by k_is) (by k_is) (by k_is))
    (case x_common_divisor => exact K08.defA_ex KX G (by k_is) (by k_is) (by k_is) (by k_is))
    (case x_integer_in => exact K08.defA_ex KX G (by k_is) (by k_is) (by k_is) (by k_is))
    (case x_are_columns => exact K08.defA_ex KX G (by k_is) (by k_is) (by k_is) (by k_is))
    (case x_is_size => exact K08.defA_ex KX G (by k_is) (by k_is) (by k_is) (by k_is))
    (case x_columns_of => exact K08.defA_ex KX G (by k_is) (by k_is) (by k_is) (by k_is))
    (case x_are_tables => exact K08.defA_ex KX G (by k_is) (by k_is) (by k_is) (by k_is))
    (case x_are_parts => exact K08.defA_ex KX G (by k_is) (by k_is) (by k_is) (by k_is))
    (case x_ratio_in => exact K08.defA_ex KX G (by k_is) (by k_is) (by k_is) (by k_is))
    (case x_l_dice => exact K08.defA_ex KX G (by k_is) (by k_is) (by k_is) (by k_is))
    (case x_l_roll => exact K08.defA_ex KX G (by k_is) (by k_is) (by k_is) (by k_is))
    (case x_l_pick => exact K08.defA_ex KX G (by k_is) (by k_is) (by k_is) (by k_is))
    (case x_l_mixed => exact K08.defA_ex KX G (by k_is) (by k_is) (by k_is) (by k_is))
    (case x_l_plain => exact K08.defA_ex KX G (by k_is) (by k_is) (by k_is) (by k_is))
    (case x_l_names => exact K08.defA_ex KX G (by k_is) (by k_is) (by k_is) (by k_is))
    (case x_l_columns => exact K08.defA_ex KX G (by k_is) (by k_is) (by k_is) (by k_is))
    (case x_l_written => exact K08.defA_ex KX G (by k_is) (by k_is) (by k_is) (by k_is))
    (case x_l_drawn => exact K08.defA_ex KX G (by k_is) (by k_is) (by k_is) (by k_is))
    (case x_l_any => exact K08.defA_ex KX G (by k_is) (by k_is) (by k_is) (by k_is))
    (case x_l_less => exact K08.defA_ex KX G (by k_is) (by k_is) (by k_is) (by k_is))
    (case x_l_lowest => exact K08.defA_ex KX G (by k_is) (by k_is) (by k_is) (by k_is))
    (case x_l_ratio_text => exact K08.defA_ex KX G (by k_is) (by k_is) (by k_is) (by k_is))
    (case x_l_lines => exact K08.defA_ex KX G (by k_is) (by k_is) (by k_is) (by k_is))
    (case x_l_asked => exact K08.defC_ex KX G (by k_is) (by k_is) (by k_is) (by k_is) (fun h KX => ⟨_, _, _, _, _, _, _, _, _, KX _ _ (by k_is), rfl, rfl, rfl, rfl, rfl, rfl, rfl, rfl, by decide⟩))
    (case x_l_told => exact K08.defA_ex KX G (by k_is) (by k_is) (by k_is) (by k_is))
    (case x_l_is_name => exact K08.defA_ex KX G (by k_is) (by k_is) (by k_is) (by k_is))
    (case x_l_are_names => exact K08.defA_ex KX G (by k_is) (by k_is) (by k_is) (by k_is))
    (case x_l_ratio => exact K08.defA_ex KX G (by k_is) (by k_is) (by k_is) (by k_is))
    (case x_l_read => exact K08.defA_ex KX G (by k_is) (by k_is) (by k_is) (by k_is))
    (case x_l_other_line => exact K08.defA_ex KX G (by k_is) (by k_is) (by k_is) (by k_is))
    (case x_l_bent => exact K08.defA_ex KX G (by k_is) (by k_is) (by k_is) (by k_is))
    (case e_InvalidRatio => k_exc)
    (case k_InvalidRatio => k_is)
    (case s_InvalidRatio => k_is)
    (case t_InvalidRatio => k_is)
    (case e_InvalidQuestion => k_exc)
    (case k_InvalidQuestion => k_is)
    (case s_InvalidQuestion => k_is)
    (case t_InvalidQuestion => k_is)
    (case o1 => k_is)
    (case o2 => decide +kernel)
    (case o3 => k_is)
    (case o4 => k_is)
    (case o5 => k_is)
    (case o6 => k_is)
    (case v1 => k_is)
    (case v2 => k_is)
    (case v4 => k_is)
    (case peN0 => k_is)
    (case x_peI => exact K08.metA_ex KX (by k_is) (by k_is) (by k_is) (by k_is) (by k_is))
    (case exRR0 => first | rfl | kernel_rfl)
    (case exPP0 => first | rfl | kernel_rfl)
    (case exQP0 => first | rfl | kernel_rfl)
    (case exQQ0 => first | rfl | kernel_rfl)
    (case a_Ratio => k_is)
    (case b_Ratio => k_is)
    (case c_Ratio => k_is)
    (case d_Ratio => k_is)
    (case ca_Ratio => k_is)
    (case cn_Ratio => k_is)
    (case ct_Ratio => k_is)
    (case cm_Ratio => k_is)
    (case rd_Ratio => k_is)
    (case ga_Ratio => k_is)
    (case mk_Ratio => k_is)
    (case kc_Ratio => k_is)
    (case x_ratTop => exact K08.slA_ex KX (by k_is) (by k_is) (by k_is) (by k_is) (by k_is) (by decide))
    (case x_ratBot => exact K08.slA_ex KX (by k_is) (by k_is) (by k_is) (by k_is) (by k_is) (by decide))
    (case x_Ratio_init => exact K08.metK_ex KX (by k_is) (by k_is) (by k_is) (by k_is) (by k_is) rfl (by k_is) rfl)
    (case x_Ratio_of_text => exact K08.cmA_ex KX (by k_is) (by k_is) (by k_is) (by k_is) (by k_is) (by k_is))
    (case x_Ratio_top => exact K08.propA_ex KX (by k_is) (by k_is) (by k_is) (by k_is) (by k_is) (by k_is) (by k_is))
    (case x_Ratio_bottom => exact K08.propA_ex KX (by k_is) (by k_is) (by k_is) (by k_is) (by k_is) (by k_is) (by k_is))
    (case x_Ratio_eq => exact K08.metA_ex KX (by k_is) (by k_is) (by k_is) (by k_is) (by k_is))
    (case x_Ratio_str => exact K08.metA_ex KX (by k_is) (by k_is) (by k_is) (by k_is) (by k_is))
    (case ratKit0 => first | rfl | kernel_rfl)
    (case ratNF0 => k_is)
    (case ratFmt0 => k_is)
    (case ratNe0 => k_is)
    (case w1 => k_is)
    (case w2 => k_is)
    (case w3 => k_is)
    (case w4 => k_is)
    (case qlMk0 => k_is)
    (case qlK0 => k_is)
    (case qlT0 => k_is)
    (case qlS0 => k_is)
    (case qlP0 => k_is)
    (case x_QuestionLines_init => exact K08.metA_ex KX (by k_is) (by k_is) (by k_is) (by k_is) (by k_is))
    (case x_QuestionLines_takes_line => exact K08.metA_ex KX (by k_is) (by k_is) (by k_is) (by k_is) (by k_is))
    (case x_QuestionLines_takes_table => exact K08.metA_ex KX (by k_is) (by k_is) (by k_is) (by k_is) (by k_is))
    (case x_QuestionLines_takes_size => exact K08.metA_ex KX (by k_is) (by k_is) (by k_is) (by k_is) (by k_is))
    (case x_QuestionLines_takes_groups => exact K08.metA_ex KX (by k_is) (by k_is) (by k_is) (by k_is) (by k_is))
    (case x_QuestionLines_whole => exact K08.metA_ex KX (by k_is) (by k_is) (by k_is) (by k_is) (by k_is))
    (case a_Question => k_is)
    (case b_Question => k_is)
    (case c_Question => k_is)
    (case d_Question => k_is)
    (case ca_Question => k_is)
    (case cn_Question => k_is)
    (case ct_Question => k_is)
    (case cm_Question => k_is)
    (case rd_Question => k_is)
    (case ga_Question => k_is)
    (case mk_Question => k_is)
    (case kc_Question => k_is)
    (case x_qs0 => exact K08.slA_ex KX (by k_is) (by k_is) (by k_is) (by k_is) (by k_is) (by decide))
    (case x_qs1 => exact K08.slA_ex KX (by k_is) (by k_is) (by k_is) (by k_is) (by k_is) (by decide))
    (case x_qs2 => exact K08.slA_ex KX (by k_is) (by k_is) (by k_is) (by k_is) (by k_is) (by decide))
    (case x_qs3 => exact K08.slA_ex KX (by k_is) (by k_is) (by k_is) (by k_is) (by k_is) (by decide))
    (case x_qs4 => exact K08.slA_ex KX (by k_is) (by k_is) (by k_is) (by k_is) (by k_is) (by decide))
    (case x_Question_init => exact K08.metK_ex KX (by k_is) (by k_is) (by k_is) (by k_is) (by k_is) rfl (by k_is) rfl)
    (case x_Question_from_lines => exact K08.cmA_ex KX (by k_is) (by k_is) (by k_is) (by k_is) (by k_is) (by k_is))
    (case x_Question_lines => exact K08.propA_ex KX (by k_is) (by k_is) (by k_is) (by k_is) (by k_is) (by k_is) (by k_is))
    (case ak_MAX_LETTERS => k_is)
    (case rk_MAX_LETTERS => exact ⟨_, rfl⟩)
    (case ak_MAX_FIGURES => k_is)
    (case rk_MAX_FIGURES => exact ⟨_, rfl⟩)
    (case ak_ALPHABET => k_is)
    (case rk_ALPHABET => exact ⟨_, rfl⟩)
    (case ak_LIMIT => k_is)
    (case rk_LIMIT => exact ⟨_, rfl⟩)
    (case ak_FIGURES => k_is)
    (case rk_FIGURES => exact ⟨_, rfl⟩)
    (case ak_MAX_TABLES => k_is)
    (case rk_MAX_TABLES => exact ⟨_, rfl⟩)
    (case ak_MAX_COLUMNS => k_is)
    (case rk_MAX_COLUMNS => exact ⟨_, rfl⟩)
    (case ak_MAX_SIZE => k_is)
    (case rk_MAX_SIZE => exact ⟨_, rfl⟩)
    (case ak_MAX_BOTTOM => k_is)
    (case rk_MAX_BOTTOM => exact ⟨_, rfl⟩)
    (case ak_MOST => k_is)
    (case rk_MOST => exact ⟨_, rfl⟩)
    (case ak_TABLE => k_is)
    (case rk_TABLE => exact ⟨_, rfl⟩)
    (case ak_SIZE => k_is)
    (case rk_SIZE => exact ⟨_, rfl⟩)
    (case ak_GROUP => k_is)
    (case rk_GROUP => exact ⟨_, rfl⟩)
    (case ab_isinstance => k_is)
    (case ab_len => k_is)
    (case ab_all => k_is)
    (case ab_zip => k_is)
    (case ab_str => k_is)
    (case ab_int => k_is)
    (case ab_bool => k_is)
    (case ab_tuple => k_is)
    (case ab_dict => k_is)
    (case ab_list => k_is)
    (case ab_set => k_is)
    (case ab_sorted => k_is)
    (case ab_abs => k_is)
    (case ab_max => k_is)
    (case ab_min => k_is)
    (case ab_range => k_is)
    (case ab_enumerate => k_is)
    (case ab_repr => k_is)
    (case ab_ValueError => k_is)
    case kk =>
      intro T
      refine' ⟨T, K08.lawD_of KX G hmg ?la ?ll ?lc, (congrArg h.get? T.askT).trans hT, (congrArg (List.lookup · _) T.askT).trans ?ln⟩
      (case la => k_is)
      (case ll => k_is)
      (case lc => k_is)
      (case ln => first | rfl | kernel_rfl)

