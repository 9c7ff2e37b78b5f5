import PyProof.Rows.All
import Wide.All
import OpenK.AllK
import Wide.FinOn
import HandS.ForMost
import HandS.Codes
import HandS.IsInst
import HandS.TupAny
import HandS.TupMul
import HandS.Flow
import HandS.OwnEq
import HandS.Conv
import HandS.Wide
import HandS.Walk
import KE.SortData
import KE.DataCmp
import KE.KDictCopyH
import KE.KDictKeyed
import KE.GoesEnum
import PyProof.InstEq
import PySem.Challenge.RW_knownquiet_k35_whole_records_judged
set_option Elab.async false
set_option linter.all false
set_option maxRecDepth 100000
set_option maxHeartbeats 4000000

/-! the text of the program and the law by places; what the top has written -/
namespace Kq
open PySem PySem.Spec PyProof.Rows
open L2 hiding CX0 E0 pass0 Fun fun_mk Fun.ok Fun.binds defArgs defBody defScope
open C8

def topS (i : Nat) : Stmt := PySem.Challenge.pw_knownquiet_k35_whole_records_judged.main.body.getD i (.Pass ⟨0, 0, 0, 0⟩)
/-- the j-th statement of a class's body -/
def inC (s : Stmt) (j : Nat) : Stmt := (clsBody s).getD j (.Pass ⟨0, 0, 0, 0⟩)
/-- how the arguments of a def bind -/
def Bindy (x qual : Str) (st : Stmt) (ps : List Str) : Prop := ∀ (kV doc pm : Value) (an : Option Addr) (cdv ct : Value) (us : List Value), us.length = ps.length →
  bindArgs (PySem.W.fnOf x qual (fnArgs st) (fnBody st) (fnScope st) .none kV doc pm an cdv ct) ⟨us, []⟩ = pure (ps.zip us)
/-- a def of the top -/
structure DefAt (K : PySem.W.Frag) (mg : Str → Option Value) (x : Str) (st : Stmt) : Prop where
  ex : ∃ (f : Addr) (fd : FuncData), Def K mg x st f fd ∧ fd.defaults = .none
/-- a method of the class at C -/
structure MethAt (K : PySem.W.Frag) (C : Addr) (m qual : Str) (st : Stmt) : Prop where
  ex : ∃ (f : Addr) (fd : FuncData), Meth K C m f ∧ Fun K m qual st f fd ∧ fd.defaults = .none
theorem defAt_mk {K : PySem.W.Frag} {h : Heap} {mg : Str → Option Value} (X : K.In h) (G : h.Ns mainGlobals mg) {x : Str} {st : Stmt} {f : Addr} {oc : Value} {od an : Option Addr} {osl : Array (Option Value)} {kV doc pm cdv ct : Value}
    (a : PySem.W.nsIn K mainGlobals x = some (some (.ref f))) (l : K.lookup f = some ⟨oc, od, .func (PySem.W.fnOf x x (fnArgs st) (fnBody st) (fnScope st) .none kV doc pm an cdv ct), osl⟩)
    (c : PySem.W.codeIn K cdv x = true) (k : PySem.W.keepIn K (.ref f) = true) : DefAt K mg x st :=
  ⟨f, _, ⟨⟨oc, od, .none, kV, doc, pm, an, cdv, ct, osl, rfl, l, c⟩, PySem.W.mg_of X G a, k⟩, rfl⟩
theorem methAt_mk {K : PySem.W.Frag} {C : Addr} {m qual : Str} {st : Stmt} {f : Addr} {oc : Value} {od an : Option Addr} {osl : Array (Option Value)} {kV doc pm cdv ct : Value}
    (a : PySem.W.findIn K (.ref C) m = some (some (.ref f))) (i : PySem.W.isFn K (.ref f) = true) (l : K.lookup f = some ⟨oc, od, .func (PySem.W.fnOf m qual (fnArgs st) (fnBody st) (fnScope st) .none kV doc pm an cdv ct), osl⟩)
    (c : PySem.W.codeIn K cdv qual = true) (k : PySem.W.keepIn K (.ref f) = true) : MethAt K C m qual st :=
  ⟨f, _, ⟨a, i, k⟩, ⟨oc, od, .none, kV, doc, pm, an, cdv, ct, osl, rfl, l, c⟩, rfl⟩
/-- a class of the text -/
structure KlsAt (K : PySem.W.Frag) (mg : Str → Option Value) (x : Str) (C : Addr) : Prop where
  ic : InsC K C
  mks : PySem.W.makesIn K C = true
  kc : PySem.W.keepIn K (.ref C) = true
  mgC : mg x = some (.ref C)
  ne : PySem.W.findIn K (.ref C) "__ne__" = some (some (.builtin "object.__ne__"))
  tup : PySem.W.kitOne K (.type "tuple") (.ref C) = some false
  nf : PySem.W.notFirst K C (.type "tuple") = true
  nfo : PySem.W.notFirst K C (.ref C) = true
theorem kit_self {K : PySem.W.Frag} {C : Addr} : PySem.W.kitOne K (.ref C) (.ref C) = some true := by
  unfold PySem.W.kitOne
  rw [if_pos (beq_self_eq_true _)]
theorem kit_ref {K : PySem.W.Frag} {C : Addr} {t : Value} {b : Bool} (h1 : PySem.W.isClsIn K C = true) (h2 : PySem.W.typeIn K (.ref C) = some (.type "type")) (h3 : PySem.W.subIn K t (.ref C) = some b) (n : (t == Value.ref C) = false) : PySem.W.kitOne K t (.ref C) = some b := by
  unfold PySem.W.kitOne
  rw [if_neg (by rw [n]; exact Bool.false_ne_true)]
  have h1' : (PySem.W.clsIn K C).isSome = true := h1
  show (if ((PySem.W.clsIn K C).isSome && PySem.W.typeIn K (.ref C) == some (.type "type")) = true then PySem.W.subIn K t (.ref C) else none) = some b
  rw [h1', h2, if_pos (by rfl)]
  exact h3
theorem na_mk {K : PySem.W.Frag} {C : Addr} {f : Str} (h : PySem.W.findIn K (.ref C) f = some none) : NoAttr K C f := h
theorem klsAt_mk {K : PySem.W.Frag} {h : Heap} {mg : Str → Option Value} (X : K.In h) (G : h.Ns mainGlobals mg) {x : Str} {C : Addr} (a : PySem.W.nsIn K mainGlobals x = some (some (.ref C)))
    (pg : PySem.W.plainGet K C Str.empty = true) (hd : PySem.W.hasDictIn K C = true) (po : PySem.W.plainOver K C = true) (sa : PySem.W.findIn K (.ref C) "__setattr__" = some (some (.builtin "object.__setattr__")))
    (ha : PySem.W.findIn K (.ref C) "__class__" = some (some (.builtin "object.__class__"))) (hn : PySem.W.specialIn K (.builtin "object.__class__") "__get__" = some (some (.builtin "getset_descriptor.__get__")))
    (htk : PySem.W.takesIn K (.builtin "object.__class__") = some true) (hm : PySem.W.mroIn K C (.type "object") = some true)
    (mk : PySem.W.makesIn K C = true) (kc : PySem.W.keepIn K (.ref C) = true) (ne : PySem.W.findIn K (.ref C) "__ne__" = some (some (.builtin "object.__ne__")))
    (kic : PySem.W.isClsIn K C = true) (kty : PySem.W.typeIn K (.ref C) = some (.type "type")) (tup : PySem.W.subIn K (.type "tuple") (.ref C) = some false) (nf : PySem.W.notFirst K C (.type "tuple") = true) (nfo : PySem.W.notFirst K C (.ref C) = true) : KlsAt K mg x C :=
  ⟨⟨⟨pg, hd, po, sa⟩, ha, hn, htk, hm, kit_self⟩, mk, kc, PySem.W.mg_of X G a, ne, kit_ref kic kty tup rfl, nf, nfo⟩
/-- a constant of the module -/
def Gv (mg : Str → Option Value) (x : Str) (v : V) : Prop := ∃ u, mg x = some u ∧ RelV v u
theorem gv_mk {K : PySem.W.Frag} {h : Heap} {mg : Str → Option Value} (X : K.In h) (G : h.Ns mainGlobals mg) {x : Str} {u : Value} {v : V} (a : PySem.W.nsIn K mainGlobals x = some (some u)) (r : RelV v u) : Gv mg x v := ⟨u, PySem.W.mg_of X G a, r⟩
/-- a tuple of the module -/
def Gt (K : PySem.W.Frag) (mg : Str → Option Value) (x : Str) (xs : List V) : Prop := ∃ a : Addr, mg x = some (.ref a) ∧ ∃ (o : Obj) (its : Array Value) (n : Nat), K.lookup a = some o ∧ o.cls = .type "tuple" ∧ o.data = .seq its n ∧ its.size ≤ sizeLine ∧ Vals xs its.toList
theorem gt_mk {K : PySem.W.Frag} {h : Heap} {mg : Str → Option Value} (X : K.In h) (G : h.Ns mainGlobals mg) {x : Str} {p : Addr} {xs : List V} {dd : Option Addr} {its : Array Value} {n : Nat} {sl : Array (Option Value)}
    (a : PySem.W.nsIn K mainGlobals x = some (some (.ref p))) (l : K.lookup p = some ⟨.type "tuple", dd, .seq its n, sl⟩) (hs : its.size ≤ sizeLine) (hv : Vals xs its.toList) : Gt K mg x xs :=
  ⟨p, PySem.W.mg_of X G a, _, its, n, l, rfl, rfl, hs, hv⟩
abbrev s_p_is_integer : Stmt := topS 7
theorem b_p_is_integer : Bindy "is_integer" "is_integer" s_p_is_integer ["thing"] := fun _ _ _ _ _ _ us hl => match us, hl with | [_], _ => rfl
abbrev s_p_is_within : Stmt := topS 8
theorem b_p_is_within : Bindy "is_within" "is_within" s_p_is_within ["thing", "least", "most"] := fun _ _ _ _ _ _ us hl => match us, hl with | [_, _, _], _ => rfl
abbrev s_p_is_below : Stmt := topS 9
theorem b_p_is_below : Bindy "is_below" "is_below" s_p_is_below ["thing", "many"] := fun _ _ _ _ _ _ us hl => match us, hl with | [_, _], _ => rfl
abbrev s_p_is_sized : Stmt := topS 10
theorem b_p_is_sized : Bindy "is_sized" "is_sized" s_p_is_sized ["thing", "least", "most"] := fun _ _ _ _ _ _ us hl => match us, hl with | [_, _, _], _ => rfl
abbrev s_p_is_pair : Stmt := topS 11
theorem b_p_is_pair : Bindy "is_pair" "is_pair" s_p_is_pair ["thing"] := fun _ _ _ _ _ _ us hl => match us, hl with | [_], _ => rfl
abbrev s_p_replaced : Stmt := topS 12
theorem b_p_replaced : Bindy "replaced" "replaced" s_p_replaced ["items", "number", "item"] := fun _ _ _ _ _ _ us hl => match us, hl with | [_, _, _], _ => rfl
abbrev s_p_is_rule : Stmt := topS 19
theorem b_p_is_rule : Bindy "is_rule" "is_rule" s_p_is_rule ["many", "kinds", "thing"] := fun _ _ _ _ _ _ us hl => match us, hl with | [_, _, _], _ => rfl
abbrev s_p_is_right_task : Stmt := topS 21
theorem b_p_is_right_task : Bindy "is_right_task" "is_right_task" s_p_is_right_task ["works", "thing"] := fun _ _ _ _ _ _ us hl => match us, hl with | [_, _], _ => rfl
abbrev s_p_letters_of : Stmt := topS 22
theorem b_p_letters_of : Bindy "letters_of" "letters_of" s_p_letters_of ["works", "house", "task"] := fun _ _ _ _ _ _ us hl => match us, hl with | [_, _, _], _ => rfl
abbrev s_p_are_tasks : Stmt := topS 23
theorem b_p_are_tasks : Bindy "are_tasks" "are_tasks" s_p_are_tasks ["works", "thing"] := fun _ _ _ _ _ _ us hl => match us, hl with | [_, _], _ => rfl
abbrev s_p_check_given : Stmt := topS 24
theorem b_p_check_given : Bindy "check_given" "check_given" s_p_check_given ["works", "thing"] := fun _ _ _ _ _ _ us hl => match us, hl with | [_, _], _ => rfl
abbrev s_p_begun : Stmt := topS 25
theorem b_p_begun : Bindy "begun" "begun" s_p_begun ["works", "given"] := fun _ _ _ _ _ _ us hl => match us, hl with | [_, _], _ => rfl
abbrev s_p_on_way : Stmt := topS 26
theorem b_p_on_way : Bindy "on_way" "on_way" s_p_on_way ["ways", "ends"] := fun _ _ _ _ _ _ us hl => match us, hl with | [_, _], _ => rfl
abbrev s_p_with_way : Stmt := topS 27
theorem b_p_with_way : Bindy "with_way" "with_way" s_p_with_way ["ways", "ends", "tasks"] := fun _ _ _ _ _ _ us hl => match us, hl with | [_, _, _], _ => rfl
abbrev s_p_after_do : Stmt := topS 28
theorem b_p_after_do : Bindy "after_do" "after_do" s_p_after_do ["works", "standing", "house"] := fun _ _ _ _ _ _ us hl => match us, hl with | [_, _, _], _ => rfl
abbrev s_p_after_hear : Stmt := topS 29
theorem b_p_after_hear : Bindy "after_hear" "after_hear" s_p_after_hear ["standing", "house", "sender"] := fun _ _ _ _ _ _ us hl => match us, hl with | [_, _, _], _ => rfl
abbrev s_p_is_all_quiet : Stmt := topS 30
theorem b_p_is_all_quiet : Bindy "is_all_quiet" "is_all_quiet" s_p_is_all_quiet ["standing"] := fun _ _ _ _ _ _ us hl => match us, hl with | [_], _ => rfl
abbrev s_p_is_event : Stmt := topS 40
theorem b_p_is_event : Bindy "is_event" "is_event" s_p_is_event ["works", "thing"] := fun _ _ _ _ _ _ us hl => match us, hl with | [_, _], _ => rfl
abbrev s_p_after_event : Stmt := topS 42
theorem b_p_after_event : Bindy "after_event" "after_event" s_p_after_event ["works", "standing", "event"] := fun _ _ _ _ _ _ us hl => match us, hl with | [_, _, _], _ => rfl
abbrev s_p_standings_of : Stmt := topS 43
theorem b_p_standings_of : Bindy "standings_of" "standings_of" s_p_standings_of ["record"] := fun _ _ _ _ _ _ us hl => match us, hl with | [_], _ => rfl
abbrev s_p_lies_of : Stmt := topS 44
theorem b_p_lies_of : Bindy "lies_of" "lies_of" s_p_lies_of ["record", "standings"] := fun _ _ _ _ _ _ us hl => match us, hl with | [_, _], _ => rfl
abbrev s_p_first_wrong : Stmt := topS 45
theorem b_p_first_wrong : Bindy "first_wrong" "first_wrong" s_p_first_wrong ["record"] := fun _ _ _ _ _ _ us hl => match us, hl with | [_], _ => rfl
abbrev s_p_standing_at : Stmt := topS 46
theorem b_p_standing_at : Bindy "standing_at" "standing_at" s_p_standing_at ["record", "at"] := fun _ _ _ _ _ _ us hl => match us, hl with | [_, _], _ => rfl
abbrev s_p_quiet_from : Stmt := topS 47
theorem b_p_quiet_from : Bindy "quiet_from" "quiet_from" s_p_quiet_from ["record"] := fun _ _ _ _ _ _ us hl => match us, hl with | [_], _ => rfl
abbrev s_p_lies_in : Stmt := topS 48
theorem b_p_lies_in : Bindy "lies_in" "lies_in" s_p_lies_in ["record"] := fun _ _ _ _ _ _ us hl => match us, hl with | [_], _ => rfl
abbrev s_l_hand : Stmt := topS 50
theorem b_l_hand : Bindy "_law_hand" "_law_hand" s_l_hand ["_law_script"] := fun _ _ _ _ _ _ us hl => match us, hl with | [_], _ => rfl
abbrev s_l_draw : Stmt := topS 51
theorem b_l_draw : Bindy "_law_draw" "_law_draw" s_l_draw ["_law_hand_here", "_law_many_here"] := fun _ _ _ _ _ _ us hl => match us, hl with | [_, _], _ => rfl
abbrev s_l_any : Stmt := topS 52
theorem b_l_any : Bindy "_law_any" "_law_any" s_l_any ["_law_hand_here", "_law_some"] := fun _ _ _ _ _ _ us hl => match us, hl with | [_, _], _ => rfl
abbrev s_l_rules : Stmt := topS 53
theorem b_l_rules : Bindy "_law_rules" "_law_rules" s_l_rules ["_law_hand_here"] := fun _ _ _ _ _ _ us hl => match us, hl with | [_], _ => rfl
abbrev s_l_many : Stmt := topS 54
theorem b_l_many : Bindy "_law_many" "_law_many" s_l_many ["_law_rules_here", "_law_task_here"] := fun _ _ _ _ _ _ us hl => match us, hl with | [_, _], _ => rfl
abbrev s_l_task : Stmt := topS 55
theorem b_l_task : Bindy "_law_task" "_law_task" s_l_task ["_law_hand_here", "_law_rules_here", "_law_most"] := fun _ _ _ _ _ _ us hl => match us, hl with | [_, _, _], _ => rfl
abbrev s_l_sent : Stmt := topS 56
theorem b_l_sent : Bindy "_law_sent" "_law_sent" s_l_sent ["_law_many_here", "_law_rules_here", "_law_house", "_law_task_here"] := fun _ _ _ _ _ _ us hl => match us, hl with | [_, _, _, _], _ => rfl
abbrev s_l_first : Stmt := topS 57
theorem b_l_first : Bindy "_law_first" "_law_first" s_l_first ["_law_many_here", "_law_given"] := fun _ _ _ _ _ _ us hl => match us, hl with | [_, _], _ => rfl
abbrev s_l_step : Stmt := topS 58
theorem b_l_step : Bindy "_law_step" "_law_step" s_l_step ["_law_many_here", "_law_rules_here", "_law_standing", "_law_event_here"] := fun _ _ _ _ _ _ us hl => match us, hl with | [_, _, _, _], _ => rfl
abbrev s_l_told : Stmt := topS 59
theorem b_l_told : Bindy "_law_told" "_law_told" s_l_told ["_law_standing"] := fun _ _ _ _ _ _ us hl => match us, hl with | [_], _ => rfl
abbrev s_l_is_quiet : Stmt := topS 60
theorem b_l_is_quiet : Bindy "_law_is_quiet" "_law_is_quiet" s_l_is_quiet ["_law_standing"] := fun _ _ _ _ _ _ us hl => match us, hl with | [_], _ => rfl
abbrev s_l_event : Stmt := topS 61
theorem b_l_event : Bindy "_law_event" "_law_event" s_l_event ["_law_hand_here", "_law_many_here", "_law_standing"] := fun _ _ _ _ _ _ us hl => match us, hl with | [_, _, _], _ => rfl
abbrev s_l_run : Stmt := topS 62
theorem b_l_run : Bindy "_law_run" "_law_run" s_l_run ["_law_hand_here", "_law_most"] := fun _ _ _ _ _ _ us hl => match us, hl with | [_, _], _ => rfl
abbrev s_l_standings : Stmt := topS 63
theorem b_l_standings : Bindy "_law_standings" "_law_standings" s_l_standings ["_law_many_here", "_law_rules_here", "_law_given", "_law_events"] := fun _ _ _ _ _ _ us hl => match us, hl with | [_, _, _, _], _ => rfl
abbrev s_l_bent : Stmt := topS 64
theorem b_l_bent : Bindy "_law_bent" "_law_bent" s_l_bent ["_law_hand_here", "_law_many_here", "_law_events"] := fun _ _ _ _ _ _ us hl => match us, hl with | [_, _, _], _ => rfl
abbrev s_l_wrong : Stmt := topS 65
theorem b_l_wrong : Bindy "_law_wrong" "_law_wrong" s_l_wrong ["_law_events", "_law_standings_here"] := fun _ _ _ _ _ _ us hl => match us, hl with | [_, _], _ => rfl
abbrev s_law : Stmt := topS 66
theorem b_law : Bindy "law" "law" s_law ["_law_script"] := fun _ _ _ _ _ _ us hl => match us, hl with | [_], _ => rfl
abbrev s_Works_init : Stmt := inC (topS 20) 0
theorem b_Works_init : Bindy "__init__" "Works.__init__" s_Works_init ["self", "many", "rules"] := fun _ _ _ _ _ _ us hl => match us, hl with | [_, _, _], _ => rfl
abbrev s_Works_eq : Stmt := inC (topS 20) 1
theorem b_Works_eq : Bindy "__eq__" "Works.__eq__" s_Works_eq ["self", "other"] := fun _ _ _ _ _ _ us hl => match us, hl with | [_, _], _ => rfl
abbrev s_Record_init : Stmt := inC (topS 41) 0
theorem b_Record_init : Bindy "__init__" "Record.__init__" s_Record_init ["self", "works", "given", "events"] := fun _ _ _ _ _ _ us hl => match us, hl with | [_, _, _, _], _ => rfl
abbrev s_Record_eq : Stmt := inC (topS 41) 1
theorem b_Record_eq : Bindy "__eq__" "Record.__eq__" s_Record_eq ["self", "other"] := fun _ _ _ _ _ _ us hl => match us, hl with | [_, _], _ => rfl
/-- what the top has written -/
structure Tx (K : PySem.W.Frag) (mg : Str → Option Value) (CW CR : Addr) : Prop where
  d_p_is_integer : DefAt K mg "is_integer" s_p_is_integer
  d_p_is_within : DefAt K mg "is_within" s_p_is_within
  d_p_is_below : DefAt K mg "is_below" s_p_is_below
  d_p_is_sized : DefAt K mg "is_sized" s_p_is_sized
  d_p_is_pair : DefAt K mg "is_pair" s_p_is_pair
  d_p_replaced : DefAt K mg "replaced" s_p_replaced
  d_p_is_rule : DefAt K mg "is_rule" s_p_is_rule
  d_p_is_right_task : DefAt K mg "is_right_task" s_p_is_right_task
  d_p_letters_of : DefAt K mg "letters_of" s_p_letters_of
  d_p_are_tasks : DefAt K mg "are_tasks" s_p_are_tasks
  d_p_check_given : DefAt K mg "check_given" s_p_check_given
  d_p_begun : DefAt K mg "begun" s_p_begun
  d_p_on_way : DefAt K mg "on_way" s_p_on_way
  d_p_with_way : DefAt K mg "with_way" s_p_with_way
  d_p_after_do : DefAt K mg "after_do" s_p_after_do
  d_p_after_hear : DefAt K mg "after_hear" s_p_after_hear
  d_p_is_all_quiet : DefAt K mg "is_all_quiet" s_p_is_all_quiet
  d_p_is_event : DefAt K mg "is_event" s_p_is_event
  d_p_after_event : DefAt K mg "after_event" s_p_after_event
  d_p_standings_of : DefAt K mg "standings_of" s_p_standings_of
  d_p_lies_of : DefAt K mg "lies_of" s_p_lies_of
  d_p_first_wrong : DefAt K mg "first_wrong" s_p_first_wrong
  d_p_standing_at : DefAt K mg "standing_at" s_p_standing_at
  d_p_quiet_from : DefAt K mg "quiet_from" s_p_quiet_from
  d_p_lies_in : DefAt K mg "lies_in" s_p_lies_in
  d_l_hand : DefAt K mg "_law_hand" s_l_hand
  d_l_draw : DefAt K mg "_law_draw" s_l_draw
  d_l_any : DefAt K mg "_law_any" s_l_any
  d_l_rules : DefAt K mg "_law_rules" s_l_rules
  d_l_many : DefAt K mg "_law_many" s_l_many
  d_l_task : DefAt K mg "_law_task" s_l_task
  d_l_sent : DefAt K mg "_law_sent" s_l_sent
  d_l_first : DefAt K mg "_law_first" s_l_first
  d_l_step : DefAt K mg "_law_step" s_l_step
  d_l_told : DefAt K mg "_law_told" s_l_told
  d_l_is_quiet : DefAt K mg "_law_is_quiet" s_l_is_quiet
  d_l_event : DefAt K mg "_law_event" s_l_event
  d_l_run : DefAt K mg "_law_run" s_l_run
  d_l_standings : DefAt K mg "_law_standings" s_l_standings
  d_l_bent : DefAt K mg "_law_bent" s_l_bent
  d_l_wrong : DefAt K mg "_law_wrong" s_l_wrong
  d_law : DefAt K mg "law" s_law
  c_Works : KlsAt K mg "Works" CW
  c_Record : KlsAt K mg "Record" CR
  m_Works_init : MethAt K CW "__init__" "Works.__init__" s_Works_init
  m_Works_eq : MethAt K CW "__eq__" "Works.__eq__" s_Works_eq
  m_Record_init : MethAt K CR "__init__" "Record.__init__" s_Record_init
  m_Record_eq : MethAt K CR "__eq__" "Record.__eq__" s_Record_eq
  n_many : NoAttr K CW "many"
  n_rules : NoAttr K CW "rules"
  n_ruled : NoAttr K CR "ruled"
  n_given : NoAttr K CR "given"
  n_events : NoAttr K CR "events"
  wr : PySem.W.kitOne K (.ref CW) (.ref CR) = some false
  wr2 : PySem.W.notFirst K CR (.ref CW) = true
  g_MOST_HOUSES : Gv mg "MOST_HOUSES" (.int 6)
  g_MOST_KINDS : Gv mg "MOST_KINDS" (.int 6)
  g_MOST_SENT : Gv mg "MOST_SENT" (.int 4)
  g_MOST_FUEL : Gv mg "MOST_FUEL" (.int 12)
  g_MOST_GIVEN : Gv mg "MOST_GIVEN" (.int 20)
  g_MOST_EVENTS : Gv mg "MOST_EVENTS" (.int 2000)
  g_DO : Gv mg "DO" (.str "do")
  g_HEAR : Gv mg "HEAR" (.str "hear")
  g_SAY : Gv mg "SAY" (.str "say")
  g_WATCHERS : Gt K mg "WATCHERS" [V.str "tree", V.str "ring", V.str "coin"]
  g_IDLE : Gv mg "IDLE" (.str "idle")
  g_EMPTY : Gv mg "EMPTY" (.str "empty")
  g_LIE : Gv mg "LIE" (.str "lie")
  z_len : mg "len" = none
  z_tuple : mg "tuple" = none
  z_all : mg "all" = none
  z_isinstance : mg "isinstance" = none
  z_int : mg "int" = none
  z_bool : mg "bool" = none
  z_sorted : mg "sorted" = none
  z_range : mg "range" = none
  z_enumerate : mg "enumerate" = none
  z_sum : mg "sum" = none
  z_abs : mg "abs" = none
  z_list : mg "list" = none
  z_dict : mg "dict" = none
  z_str : mg "str" = none
end Kq
namespace Kq
open PySem PySem.Spec PyProof.Rows
open L2 hiding CX0 E0 pass0 Fun fun_mk Fun.ok Fun.binds defArgs defBody defScope
open C8
/-! tuple * k, for k from 0 on -/
section
variable {X : Cx}
/-- targets, all looks left to the end -/
theorem pgn (i : Nat) {x : Str} {pos : Pos} (hN : X.N.Nodup) (hi : X.N[i]? = some x := by rfl) (hx : Loc X.env.scope x := by first | exact .inl rfl | exact .inr rfl)
    (hf : X.fn x = true ∨ X.env.scope.names.lookup x = some .local := by first | exact .inl rfl | exact .inr rfl) : PG X (.Name x pos) (gName i) := pg_name hN hi hx hf
/-- nothing that was tracked is changed -/
theorem same_upd {H : Hp} {p : Addr} {o : HO} (h : H p = none) : Same H (upd H p o) := fun b x e => by
  rw [upd_ne (ne_of_none e h)]; exact e
theorem tuple_mul1 (l : Addr) (items : Array Value) (n : Nat) (dd : Option Addr) (sl : Array (Option Value)) (u : Tok) :
    Meets (Builtin.«tuple.__mul__» ⟨[.ref l, .int 1 u], []⟩) (fun _ R s => s.heap.get? l = some { cls := .type "tuple", dict := dd, data := .seq items n, slots := sl } ∧ R (.ok (.ret (Value.ref l))) s) :=
  .of_wp fun prog w A R s h => by
    obtain ⟨hp, g, d, tk, os⟩ := s
    obtain ⟨hl, h⟩ := h
    have f1 := AutoSeq1.idx_int
    wp_walk using wpAny_loadPart' hl
    exact ⟨_, rfl, h⟩
theorem tuple_mul0 (l : Addr) (items : Array Value) (hne : items.isEmpty = false) (n : Nat) (dd : Option Addr) (sl : Array (Option Value)) (u : Tok) :
    Meets (Builtin.«tuple.__mul__» ⟨[.ref l, .int 0 u], []⟩) (fun _ R s => s.heap.get? l = some { cls := .type "tuple", dict := dd, data := .seq items n, slots := sl } ∧
      R (.ok (.ret (Value.ref s.heap.objs.size))) { s with heap := s.heap.push { cls := Value.type "tuple", data := Data.seq #[] }, toks := s.toks }) :=
  .of_wp fun prog w A R s h => by
    obtain ⟨hp, g, d, tk, os⟩ := s
    obtain ⟨hl, h⟩ := h
    have f1 := AutoSeq1.idx_int
    have c1 : (items.isEmpty || (0 : Int) == 1) = false := by rw [hne]; rfl
    wp_walk using wpAny_loadPart' hl
    repeat (first
      | (refine wpAny_ite_false (decide_eq_false (by rw [c1]; exact Bool.false_ne_true)) ?_; wp_walk using wpAny_loadPart' hl))
    exact ⟨_, rfl, h⟩
/-- t * k -/
def rRepA (K : PySem.W.Frag) : R2 := fun x y H Q => ∃ l k xs, x = .ref l ∧ y = .int k ∧ SqT K H l xs ∧ xs ≠ [] ∧ 0 ≤ k ∧ k ≤ 1000 ∧ xs.length ≤ 1000 ∧
  ∀ H' p, Same H H' → SqT K H' p (List.replicate k.toNat xs).flatten → Q (.ref p) H'
theorem op_repA : OpR X (binaryOp .Mult) (rRepA X.K) := by
  intro pins s σ H x y v u Q I rx ry h
  obtain ⟨l, k, xs, rfl, rfl, hT, hne, h1, h2, hz, q⟩ := h
  by_cases k2 : 2 ≤ k
  · exact op_repT pins s σ H _ _ v u Q I rx ry ⟨l, k, xs, rfl, rfl, hT, hne, k2, h2, hz, fun p hp => q _ p (same_upd hp) (.inl (.inl upd_same))⟩
  · cases rx
    obtain ⟨t, rfl⟩ := ry
    obtain ⟨its, r, ⟨⟨cls, dd, data, sl⟩, ho, hc, n, hd⟩, hs⟩ := I.tuple hT
    simp only at hc hd
    subst hc hd
    have hle : its.length = xs.length := r.length.symm
    have hn : its ≠ [] := fun e => hne (by
      rw [e] at hle
      exact List.eq_nil_of_length_eq_zero hle.symm)
    have hi : its.toArray.isEmpty = false := by
      cases its with
      | nil => exact absurd rfl hn
      | cons a b => rfl
    obtain rfl | rfl : k = 0 ∨ k = 1 := by omega
    · refine wpAny_binaryOp_repeat_ref (T := "tuple") (U := "int") (by decide) ⟨_, ho, rfl⟩ (fun s' => typeIs_int s' 0 t) noFill_tuple_mul PySem.F.fills_int_mul PySem.F.slot_int_rmul repeat_tuple PySem.F.slot_int_index.lookup
        (call_meets PySem.F.slot_int_rmul (typeIs_int s 0 t) PySem.F.entry_int_rmul (PySem.F.args_int_rmul_2 _ _) (int_rmul_tuple 0 t l its.toArray n dd sl)
          ⟨ho, rfl, ⟨_, ho, rfl⟩, call_meets PySem.F.slot_tuple_mul ⟨_, ho, rfl⟩ PySem.F.entry_tuple_mul (PySem.F.args_tuple_mul_2 _ _) (tuple_mul0 l its.toArray hi n dd sl t) ⟨ho, ?_⟩⟩)
      have hf := I.hok.fresh (Nat.le_refl s.heap.objs.size)
      refine ⟨.ref s.heap.objs.size, _, I.laid (t' := s.toks) (o := .tup []) (fun b ob q => Heap.get?_push_of_some _ q) (Nat.le_refl _) ?_, rfl, q _ _ (same_upd hf) (.inl (.inl upd_same))⟩
      exact ⟨by decide, [], .nil, IsTup.new _ _⟩
    · refine wpAny_binaryOp_repeat_ref (T := "tuple") (U := "int") (by decide) ⟨_, ho, rfl⟩ (fun s' => typeIs_int s' 1 t) noFill_tuple_mul PySem.F.fills_int_mul PySem.F.slot_int_rmul repeat_tuple PySem.F.slot_int_index.lookup
        (call_meets PySem.F.slot_int_rmul (typeIs_int s 1 t) PySem.F.entry_int_rmul (PySem.F.args_int_rmul_2 _ _) (int_rmul_tuple 1 t l its.toArray n dd sl)
          ⟨ho, rfl, ⟨_, ho, rfl⟩, call_meets PySem.F.slot_tuple_mul ⟨_, ho, rfl⟩ PySem.F.entry_tuple_mul (PySem.F.args_tuple_mul_2 _ _) (tuple_mul1 l its.toArray n dd sl t) ⟨ho, ?_⟩⟩)
      refine ⟨.ref l, H, I, rfl, q H l (Same.refl H) ?_⟩
      show SqT X.K H l (List.replicate 1 xs).flatten
      simpa using hT
end
end Kq
namespace Kq
open PySem PySem.Spec PyProof.Rows
open L2 hiding CX0 E0 pass0 Fun fun_mk Fun.ok Fun.binds defArgs defBody defScope
open C8
/-! == and != by an own __eq__ that may give both answers -/
section
open PySem.W
variable {prog : Program} {w : World} {A : Around} {E : Value → Shared → Prop} {s : Shared} {K : Frag} {x C L f : Addr} {h₀ : Heap} {m : Str → Option Value} {ox : Obj} {od : Option Obj} {b tb : Value}
theorem callIf_ne {Q : Option Value → Shared → Prop} {args : List Value} (X : K.In s.heap) (I : InstAt s.heap x ox C od) (hne : findIn K (.ref C) "__ne__" = some (some (.builtin "object.__ne__")))
    (h : wpAny (model prog w) A (call (.builtin "object.__ne__") (.ref x :: args)) (fun v => Q (some v)) E s) : wpAny (model prog w) A (callSpecialIfBound? (.ref x) "__ne__" args) Q E s := by
  simp only [callSpecialIfBound?, bindSpecialIfBound?]
  refine wpAny_holding (wpAny_bind (wpAny_bind (wpAny_bind (I.type.here ((looks_findIn X hne).here ?_)))))
  have S : Slot "object" "__ne__" "object.__ne__" := PySem.F.cmp_object.ne
  simp only [S.bind]
  refine wpAny_bind (wpAny_askSetting (wpAny_ite ?_))
  have fin : wpAny (model prog w) A (call (.builtin "object.__ne__") ([.ref x] ++ args) >>= fun v => pure (some v)) Q E s :=
    wpAny_bind (wpAny_mono h (fun v s' h' => wpAny_pure h') fun _ _ h' => h')
  split
  · exact wpAny_bind (wpAny_pure (wpAny_pure fin))
  · exact wpAny_tryCatch (wpAny_bind (wpAny_pure (wpAny_pure fin)))
theorem call_ne {Q : Value → Shared → Prop} (hu : A.units + 1 < cLine) (X : K.In s.heap) (I : InstAt s.heap x ox C od) (po : plainOver K C = true)
    (hs : findIn K (.ref C) "__eq__" = some (some (.ref f))) (hf : isFn K (.ref f) = true)
    (h : wpAny (model prog w) A.in1 (call (.ref f) [.ref x, b]) (fun v s' => ∃ k, v = .bool k ∧ Q (.bool (!k)) s') E s) :
    wpAny (model prog w) A (call (.builtin "object.__ne__") [.ref x, b]) Q E s := by
  obtain ⟨cd, hc, ho⟩ := any_some po
  have ne : cd.mro.isEmpty = false := by cases q : cd.mro with | nil => rw [q] at ho; cases ho | cons _ _ => rfl
  have sub : Looks (model prog w) s.heap (isInstance (.ref x) (.type "object")) true := I.type.andThen (looks_mroIn X (by unfold mroIn; rw [hc, Option.bind_some, if_neg (by rw [ne]; decide), only_has ho]))
  refine wpAny_call (codeAny_call_builtin PySem.F.cmp_object.ne.plain PySem.F.cmpEntry_ne (@check_slot (model prog w) _ _ s "object.__ne__" "object" "__ne__" (.ref x) [b] [] _ PySem.F.cmpKind_ne PySem.F.cmpSplit_ne sub (PySem.F.cmpArgs_ne _ _) ?_))
  unfold Builtin.«object.__ne__»
  refine wpAny_bind (wpAny_pure ?_)
  show wpAny _ _ (cRoomFor "comparison" [.ref x, b] >>= _) _ _ _
  refine wpAny_bind (wpAny_cRoomFor (show A.units + 1 < cLine from hu) ?_)
  refine wpAny_bind (ifBound_K X I hs hf (wpAny_mono h (fun v s' hv => ?_) fun _ _ e => e))
  obtain ⟨k, rfl, q⟩ := hv
  refine wpAny_bind (wpAny_truthy_bool ?_)
  exact wpAny_pure q
theorem cmpNe_K {Q : Value → Shared → Prop} (hu : A.units + 1 < cLine) (F : Fr h₀ L s.heap m) (X₀ : K.In h₀) (I : InstAt s.heap x ox C od) (hb : Looks (model prog w) s.heap (typeOf b) tb) (hn : notFirst K C tb = true) (po : plainOver K C = true)
    (hne : findIn K (.ref C) "__ne__" = some (some (.builtin "object.__ne__"))) (hs : findIn K (.ref C) "__eq__" = some (some (.ref f))) (hf : isFn K (.ref f) = true)
    (h : wpAny (model prog w) A.in1 (call (.ref f) [.ref x, b]) (fun v s' => ∃ k, v = .bool k ∧ Q (.bool (!k)) s') E s) : wpAny (model prog w) A (richCompare .NotEq (.ref x) b) Q E s := by
  have X := X₀.keeps F.keep
  have one : wpAny (model prog w) A (tryCompare (.ref x) (cmpInfo .NotEq).2.1 b) (fun r s' => ∃ v, r = some v ∧ Q v s') E s := by
    unfold tryCompare
    refine wpAny_bind (callIf_ne X I hne (wpAny_mono (Q := fun v s' => ∃ k : Bool, v = .bool k ∧ Q v s') (call_ne hu X I po hs hf (wpAny_mono h (fun v s' hv => ?_) fun _ _ e => e)) (fun v s' hv => ?_) fun _ _ e => e))
    · obtain ⟨k, rfl, q⟩ := hv
      exact ⟨k, rfl, _, rfl, q⟩
    · obtain ⟨k, rfl, q⟩ := hv
      exact wpAny_pure ⟨_, rfl, q⟩
  unfold richCompare
  simp only [oneThing_ref]
  refine wpAny_holding (wpAny_bind (wpAny_cRoomFor (Nat.lt_of_succ_lt hu) ?_))
  refine wpAny_bind (I.type.here (wpAny_bind (hb.here ?_)))
  split
  · rename_i q
    have e : subIn K tb (.ref C) = some false := by
      rcases Bool.or_eq_true_iff.mp hn with e | e
      · rw [beq_iff_eq.mp e] at q; simp at q
      · exact beq_iff_eq.mp e
    refine wpAny_bind ((looks_subIn X e).here ?_)
    simp only [Bool.false_eq_true, if_false]
    refine wpAny_bind (wpAny_mono one (fun r s' z => ?_) fun _ _ e => e)
    obtain ⟨v, rfl, hq⟩ := z
    exact wpAny_pure hq
  · refine wpAny_bind (wpAny_pure ?_)
    simp only [Bool.false_eq_true, if_false]
    refine wpAny_bind (wpAny_mono one (fun r s' z => ?_) fun _ _ e => e)
    obtain ⟨v, rfl, hq⟩ := z
    exact wpAny_pure hq
end
section
variable {X : Cx} {C : Addr} {k j : Nat} {sp : Sp}
/-- x == y (neg: x != y) by the own __eq__ of the class at C, whose promise is sp -/
def rOwn (K : PySem.W.Frag) (C : Addr) (sp : Sp) (neg : Bool) : R2 := fun x y H Q => ∃ a dx fs t, x = .ref a ∧ H a = some (.ins C dx fs) ∧ TyX K H y t ∧ PySem.W.notFirst K C t = true ∧
  sp [x, y] H (fun v H' => ∃ b, v = .bl b ∧ Q (.bl (if neg then !b else b)) H') E0
theorem own_run {A : Around} {f : Addr} {fd : FuncData} {ps : List Str} (F : FnOk X.prog X.w X.K X.mg X.base CX0 k f fd ps sp) (hb : Binds X.K fd ps []) {pins : List (Addr × Obj)} {σ : L2.St} {H : Hp} {s : Shared} (I : Inv X pins σ H s) (sb : Sub X k A)
    {x y : V} {u v : Value} (rx : RelV x u) (ry : RelV y v) {Q : VK} (h : sp [x, y] H Q E0) : wpAny (model X.prog X.w) A (call (.ref f) [u, v]) (EP X pins σ Q) X.xe s := by
  have e0 : Env0 X.prog X.w X.K X.mg X.base A X.stack s H := by
    have e := I.env0
    exact ⟨by rw [sb.fr]; exact e.frames, e.mod, e.bs, e.bsz, e.funs, e.frf, e.hok, e.bare⟩
  have hl := F.len _ _ _ _ h
  have r2 : Vals [x, y] [u, v] := .cons rx (.cons ry .nil)
  refine wpAny_call (codeAny_mono (F.run A X.stack s H ⟨[u, v], []⟩ [u, v] [x, y] _ E0 sb.room e0 (by
    have := hb s [u, v] I.kIn (by simpa using hl)
    simpa using this) r2 h) fun r s' hq => ?_)
  cases r with
  | error e => exact (pass0 (E := E0)) pins σ H s e s' I hq
  | ok fl =>
    cases fl with
    | ret w => exact I.after hq
    | next => exact False.elim hq
    | brk => exact False.elim hq
    | cont => exact False.elim hq
theorem op_ownEq (M : Met X.prog X.w X.K X.mg X.base k C "__eq__" sp []) (hr : Room j X.A) (hk : k ≤ j) : OpR X (compareOp .Eq) (rOwn X.K C sp false) := by
  intro pins s σ H x y v u Q I rx ry h
  obtain ⟨a, dx, fs, t, rfl, ha, ty, nf, h⟩ := h
  obtain ⟨f, fd, ps, ds, c, me, F, b, d⟩ := M.ex
  cases d
  obtain ⟨P, Z, p, hx⟩ := kit_of I ry ty
  cases rx
  obtain ⟨mA, J, _⟩ := ins_get I.hok ha
  obtain ⟨od, J, _⟩ := J.look
  obtain ⟨m, hF⟩ := I.fr
  show wpAny (model X.prog X.w) X.A (richCompare .Eq (.ref a) u) (EP X pins σ Q) X.xe s
  refine PySem.W.cmp_K (op := .Eq) (tb := t) hr.units0 hF I.ok.mod.kin J (Z.ty _ _ I.kIn p) nf me.at_ me.fn ?_
  refine wpAny_mono (own_run (x := .ref a) (u := .ref a) F b I ⟨hr.mono hk, rfl⟩ rfl ry h) (fun r s' z => ?_) fun _ _ e => e
  obtain ⟨z, H', I', rz, bb, rfl, q⟩ := z
  cases rz
  exact ⟨.bl bb, H', I', rfl, q⟩
theorem op_ownNe (M : Met X.prog X.w X.K X.mg X.base k C "__eq__" sp []) (hr : Room j X.A) (hk : k + 1 ≤ j) (hne : PySem.W.findIn X.K (.ref C) "__ne__" = some (some (.builtin "object.__ne__"))) : OpR X (compareOp .NotEq) (rOwn X.K C sp true) := by
  intro pins s σ H x y v u Q I rx ry h
  obtain ⟨a, dx, fs, t, rfl, ha, ty, nf, h⟩ := h
  obtain ⟨f, fd, ps, ds, c, me, F, b, d⟩ := M.ex
  cases d
  obtain ⟨P, Z, p, hx⟩ := kit_of I ry ty
  cases rx
  obtain ⟨mA, J, _⟩ := ins_get I.hok ha
  obtain ⟨od, J, _⟩ := J.look
  obtain ⟨m, hF⟩ := I.fr
  show wpAny (model X.prog X.w) X.A (richCompare .NotEq (.ref a) u) (EP X pins σ Q) X.xe s
  refine cmpNe_K (tb := t) (hu_of hr) hF I.ok.mod.kin J (Z.ty _ _ I.kIn p) nf c.po hne me.at_ me.fn ?_
  refine wpAny_mono (own_run (x := .ref a) (u := .ref a) F b I ⟨(hr.mono hk).in1, rfl⟩ rfl ry h) (fun r s' z => ?_) fun _ _ e => e
  obtain ⟨z, H', I', rz, bb, rfl, q⟩ := z
  cases rz
  exact ⟨bb, rfl, .bl (!bb), H', I', rfl, q⟩
end
end Kq
namespace Kq
open PySem PySem.Spec PyProof.Rows
open L2 hiding CX0 E0 pass0 Fun fun_mk Fun.ok Fun.binds defArgs defBody defScope
open C8
/-! enumerate(tuple); loops over enumerate -/
section
variable {P : Program} {w : World} {K : PySem.W.Frag}
theorem meets_enumerate_newB1 {v : Value} {o : Obj} {H : Heap → Prop} (B : Begins v o H) :
    Meets (Builtin.«enumerate.__new__» ⟨[.type "enumerate", v], []⟩) (fun _ R s => H s.heap ∧
      R (.ok (.ret (.ref (s.heap.push o).objs.size))) { s with heap := (s.heap.push o).push { cls := .type "enumerate", data := .fields #[.none, .bool false, .ref s.heap.objs.size, rawInt 0, .none, .none] } }) :=
  .of_wp fun prog w A R s h => by
    obtain ⟨hp, g, d, tk, os⟩ := s; obtain ⟨h1, h⟩ := h
    have hsub := sub_enumerate
    have q1 : ∀ {A' : Around} {E : Value → Shared → Prop} {Q : Value → Shared → Prop}, Q (.ref hp.objs.size) ⟨hp.push o, g, d, tk, os⟩ → wpAny (model prog w) A' (pyIter v) Q E ⟨hp, g, d, tk, os⟩ :=
      fun q => B.iter prog w _ _ ⟨hp, g, d, tk, os⟩ _ h1 q
    wp_walk using q1
    refine wpAny_stack_any fun st => wpAny_pure ?_
    split
    · rename_i c _ _ _ _ _
      cases (c == Value.type "enumerate")
      · wp_walk using q1
        exact ⟨_, rfl, h⟩
      · wp_walk using q1
        exact ⟨_, rfl, h⟩
    · wp_walk using q1
      exact ⟨_, rfl, h⟩
theorem call_enumerate_tup {A : Around} {E : Value → Shared → Prop} {s : Shared} {l : Addr} {items : Array Value} {Q : Value → Shared → Prop} (hL : s.heap.IsTuple l items)
    (h : ∀ h', IsEnum h' (s.heap.objs.size + 1) s.heap.objs.size 0 .none → h'.IsTupleIter s.heap.objs.size l 0 → h'.objs.size = s.heap.objs.size + 2 →
      (∀ b o, s.heap.get? b = some o → h'.get? b = some o) → Q (.ref (s.heap.objs.size + 1)) { s with heap := h' }) :
    wpAny (model P w) A (call (.type "enumerate") [.ref l]) Q E s := by
  refine callType_new PySem.F.called_enumerate (by decide) (PySem.F.typeCall_enumerate_1 _) (PySem.F.newCall_enumerate_1 _) (fun obj => PySem.F.args_object_init_2 obj _) PySem.F.entry_enumerate_new
    (meets_enumerate_newB1 (begins_tuple l items)) ⟨hL, ?_⟩
  have hz : (s.heap.push { cls := .type "tuple_iterator", data := .fields #[.ref l, .int 0 0] }).objs.size = s.heap.objs.size + 1 := Heap.size_push ..
  show _ ∧ _
  rw [hz]
  have he : IsEnum ((s.heap.push { cls := .type "tuple_iterator", data := .fields #[.ref l, .int 0 0] }).push
      { cls := .type "enumerate", data := .fields #[.none, .bool false, .ref s.heap.objs.size, rawInt 0, .none, .none] }) (s.heap.objs.size + 1) s.heap.objs.size 0 .none := by
    have := Heap.get?_push_size (s.heap.push { cls := .type "tuple_iterator", data := .fields #[.ref l, .int 0 0] })
      (o := { cls := .type "enumerate", data := .fields #[.none, .bool false, .ref s.heap.objs.size, rawInt 0, .none, .none] }) rfl
    rw [hz] at this; exact this
  refine ⟨⟨_, he, rfl⟩, h _ he ⟨_, Heap.get?_push_of_some _ (Heap.get?_push_size _ rfl), rfl, rfl⟩ (by rw [Heap.size_push, hz]) fun b o x => Heap.get?_push_of_some _ (Heap.get?_push_of_some _ x)⟩

/-- the tuple at a, each item in a new pair -/
def IteT (K : PySem.W.Frag) (a : Addr) : It :=
  ⟨fun i H => ∃ (xs : List V) (x : V), SqT K H a xs ∧ xs[i]? = some x, fun i H v H' => ∃ T x, v = .ref T ∧ H T = none ∧ H' = upd H T (.tup [.int (i : Nat), x]) ∧ ∀ xs, SqT K H a xs → xs[i]? = some x, fun i H => ∃ xs : List V, SqT K H a xs ∧ xs.length = i⟩
theorem turn_enumT {elts : List Expr} {kk : Nat} {tpos : Pos} (a e it : Addr) :
    Turn P w K (.Tuple elts kk tpos) (IteT K a) [e, it] e (fun i h => (∃ old, IsEnum h e it ((i : Nat) : Int) old) ∧ h.IsTupleIter it a i ∧ e ≠ it) where
  mem := by simp
  obj := fun i h st b hb => by
    obtain ⟨⟨old, he⟩, ⟨o, ho, hc, hd⟩, _⟩ := st
    have e' : b = e ∨ b = it := by simpa using hb
    rcases e' with z | z
    · rw [z]; exact ⟨_, he, fun v q => nomatch q⟩
    · rw [z]; exact ⟨o, ho, fun v q => by rw [hd] at q; cases q⟩
  keep := fun i h h' st k => let ⟨⟨old, he⟩, hi, hne⟩ := st; ⟨⟨old, k e (by simp) _ he⟩, hi.at fun o q => k it (by simp) o q, hne⟩
  item := by
    intro X hP hw hK hc i pins s σ H E I hf st hg
    subst hP hw hK
    obtain ⟨⟨old, he⟩, hit, hne⟩ := st
    obtain ⟨xs, x, hq, hx⟩ := hg
    obtain ⟨its, rv, p, hz⟩ := I.tuple hq
    obtain ⟨u, hu, ru⟩ := rv.get hx
    have hel : e < s.heap.objs.size := Heap.lt_size he
    have hil : it < s.heap.objs.size := by obtain ⟨_, q, _⟩ := hit; exact Heap.lt_size q
    have hti : a ≠ it := fun z => by
      obtain ⟨o1, e1, c1, _⟩ := hit
      obtain ⟨o2, e2, c2, _⟩ := p
      rw [z, e1] at e2; cases e2; rw [c1] at c2; injection c2 with c2; exact absurd c2 (by decide)
    have hte : a ≠ e := fun z => by
      obtain ⟨o2, e2, c2, _⟩ := p
      rw [z, he] at e2; cases e2; injection c2 with c2; exact absurd c2 (by decide)
    have hlt : i < its.toArray.size := by
      have := (List.getElem?_eq_some_iff.mp hu).1
      simpa using this
    refine wpAny_pyNext_enum_itemC (Draws.tuple (A := X.A.in1) (I.ok.hd hc) it a hti its.toArray) he ⟨hit, p⟩ hlt hne (by simp only [List.mem_cons, List.not_mem_nil, or_false, not_or]; exact ⟨hne, Ne.symm hte⟩) fun x' h' tk hx' ho hst' hT hsz hk => ?_
    obtain ⟨hit', p'⟩ := hst'
    have ex : x' = u := by
      have q : its[i]? = some x' := by simpa using hx'
      rw [hu] at q; cases q; rfl
    subst ex
    refine ⟨_, rfl, wpAny_letOwnedTupleGo_enum (s := { s with heap := h', toks := tk + 1 }) ho fun h'' he' sb => ?_⟩
    have hT2 : h''.get? s.heap.objs.size = some { cls := .type "tuple", data := .seq #[.int i tk, x'] } := (sb.2 _ (Nat.ne_of_gt hel)).trans hT
    have new : ObjOk X.prog X.w (upd H s.heap.objs.size (.tup [.int (i : Nat), x])) h'' s.heap.objs.size (.tup [.int (i : Nat), x]) :=
      ⟨by show 2 ≤ sizeLine; decide, [.int i tk, x'], .cons ⟨_, rfl⟩ (.cons ru .nil), ⟨_, hT2, rfl, _, rfl⟩⟩
    have I1 : Inv X pins σ (upd H s.heap.objs.size (.tup [.int (i : Nat), x])) { s with heap := h'', toks := tk + 1 } :=
      I.turnedNew (ch := [e, it]) (fun b ob hb q => (sb.2 b (fun z => hb (by simp [z]))).trans (hk b ob (fun z => hb (by simp [z])) (fun z => hb (by simp [z])) q)) hf (Nat.le_refl _) new
    refine ⟨.ref s.heap.objs.size, _, I1, rfl, ⟨_, x, rfl, I.hok.fresh (Nat.le_refl _), rfl, fun ys hy => by rw [I.tuple_inj hy hq]; exact hx⟩, ⟨⟨x', ?_⟩, hit'.at fun o q => (sb.2 it (Ne.symm hne)).trans q, hne⟩, fun b hb => ?_⟩
    · have e1 : ((i + 1 : Nat) : Int) = (i : Int) + 1 := by omega
      rw [e1]; exact he'
    · have hb' : b < s.heap.objs.size := by
        have e' : b = e ∨ b = it := by simpa using hb
        rcases e' with z | z
        · rw [z]; exact hel
        · rw [z]; exact hil
      rw [upd_ne (Nat.ne_of_lt hb')]
      exact (hf b hb).1
  done := by
    intro X hP hw hK hc i pins s σ H E I hf st hg
    subst hP hw hK
    obtain ⟨⟨old, he⟩, hit, hne⟩ := st
    obtain ⟨xs, hq, hx⟩ := hg
    obtain ⟨its, rv, p, hz⟩ := I.tuple hq
    obtain ⟨f0, f1, f2, f3, f4, f5⟩ := hf it (by simp)
    have hti : a ≠ it := fun z => by
      obtain ⟨o1, e1, c1, _⟩ := hit
      obtain ⟨o2, e2, c2, _⟩ := p
      rw [z, e1] at e2; cases e2; rw [c1] at c2; injection c2 with c2; exact absurd c2 (by decide)
    have hl := rv.length
    subst hx
    have hn : its.toArray.size = xs.length := by rw [List.size_toArray]; exact hl.symm
    refine wpAny_pyNext_enum_endD (Draws.tuple (A := X.A.in1) (I.ok.hd hc) it a hti its.toArray) he (by rw [hn]; exact ⟨hit, p⟩) fun h' eb => ⟨rfl, I.turned (t' := s.toks) (fun b o hb q => eb b o hb q) f0 f1 f3 f4 f5⟩
  self := fun A i s Q E st h => let ⟨⟨_, he⟩, _⟩ := st; wpAny_pyIter_enum he h
end
def iEnumT (K : PySem.W.Frag) (ta : TA) : TI := fun σ H R => ta σ H fun vs H1 => ∃ a xs, vs = [.ref a] ∧ SqT K H1 a xs ∧ R (IteT K a) H1
theorem pi_enumT {X : Cx} {e : Expr} {ta : TA} {p pos tpos : Pos} {elts : List Expr} {kk : Nat} (hg : Gl X "enumerate") (hm : X.mg "enumerate" = none) (ha : PA X [e] ta) (hs : starEach [e] X.env = [(false, eval e X.env)] := by rfl) :
    PI X (.Tuple elts kk tpos) (.Call (.Name "enumerate" p) [e] [] pos) (iEnumT X.K ta) := by
  refine ⟨fun pins s σ H R I h => ?_⟩
  refine Call_ (ld_blt I hg hm boot_enumerate (PyProof.Rows.callWith_type1 (thn (ha.run pos pins s σ H _ I h) fun us s1 ⟨vs, H1, I1, r1, q1⟩ => ?_) hs rfl))
  obtain ⟨a, xs, ex, hq, q⟩ := q1
  subst ex
  cases r1 with
  | cons r rr =>
    cases rr
    cases r
    obtain ⟨its, rv, p', hz⟩ := I1.tuple hq
    refine call_enumerate_tup p' fun h' he hit hsz hk => wpAny_pyIter_enum he ?_
    have I2 : Inv X pins σ H1 { s1 with heap := h' } := I1.kept (t' := s1.toks) hk
    refine ⟨s1.heap.objs.size + 1, [s1.heap.objs.size + 1, s1.heap.objs.size], _, _, H1, rfl, I2, turn_enumT a (s1.heap.objs.size + 1) s1.heap.objs.size, ⟨⟨.none, he⟩, hit, Nat.succ_ne_self _⟩, fun b hb => ?_, q⟩
    have e' : b = s1.heap.objs.size + 1 ∨ b = s1.heap.objs.size := by simpa using hb
    have hle : s1.heap.objs.size ≤ b := by
      rcases e' with z | z
      · rw [z]; exact Nat.le_add_right _ _
      · rw [z]; exact Nat.le_refl _
    exact I1.fpOk hle (I1.hok.fresh hle)
section
variable {K : PySem.W.Frag}
/-- for i, x in enumerate(tuple) -/
theorem for_enumT {a : Addr} {xs : List V} {g : TG} {tb : TS} {D : Ends} {σ : L2.St} {H : Hp} (Pv : Nat → L2.St → Hp → Prop) (h0 : Pv 0 σ H) (hl : ∀ i σ H, i ≤ xs.length → Pv i σ H → SqT K H a xs)
    (hs : ∀ i x σ H T, xs[i]? = some x → Pv i σ H → H T = none → g (.ref T) σ (upd H T (.tup [.int (i : Nat), x])) fun σ2 H2 => tb { D with nx := Pv (i + 1), ct := Pv (i + 1), bk := D.nx } σ2 H2) (hd : ∀ σ H, Pv xs.length σ H → D.nx σ H) :
    ∃ W : Nat → Nat → L2.St → Hp → Prop, (∃ m, W 0 m σ H) ∧ ∀ i m σ H, W i m σ H →
      ((IteT K a).stop i H ∧ D.nx σ H) ∨ ((IteT K a).go i H ∧ ∃ N : L2.St → Hp → Prop, (∀ σ' H', N σ' H' → ∃ m', m' < m ∧ W (i + 1) m' σ' H') ∧ ∀ x H', (IteT K a).yld i H x H' → g x σ H' fun σ2 H2 => tb { D with nx := N, ct := N, bk := D.nx } σ2 H2) := by
  refine ⟨fun i m σ H => m = xs.length - i ∧ i ≤ xs.length ∧ Pv i σ H, ⟨xs.length, by simp, Nat.zero_le _, h0⟩, ?_⟩
  rintro i m σ H ⟨rfl, hi, p⟩
  have q := hl i σ H hi p
  by_cases hlt : i < xs.length
  · refine .inr ⟨⟨xs, xs[i], q, by simp [hlt]⟩, Pv (i + 1), fun σ' H' p' => ⟨xs.length - (i + 1), by omega, rfl, hlt, p'⟩, fun x H' y => ?_⟩
    obtain ⟨T, x, rfl, nT, rfl, hy⟩ := y
    exact hs i x _ _ T (hy xs q) p nT
  · have e : i = xs.length := by omega
    subst e
    exact .inl ⟨⟨xs, q, rfl⟩, hd σ H p⟩
/-- for i, x in enumerate(list) -/
theorem for_enum {a : Addr} {xs : List V} {g : TG} {tb : TS} {D : Ends} {σ : L2.St} {H : Hp} (Pv : Nat → L2.St → Hp → Prop) (h0 : Pv 0 σ H) (hl : ∀ i σ H, i ≤ xs.length → Pv i σ H → SqL K H a xs)
    (hs : ∀ i x σ H T, xs[i]? = some x → Pv i σ H → H T = none → g (.ref T) σ (upd H T (.tup [.int (i : Nat), x])) fun σ2 H2 => tb { D with nx := Pv (i + 1), ct := Pv (i + 1), bk := D.nx } σ2 H2) (hd : ∀ σ H, Pv xs.length σ H → D.nx σ H) :
    ∃ W : Nat → Nat → L2.St → Hp → Prop, (∃ m, W 0 m σ H) ∧ ∀ i m σ H, W i m σ H →
      ((Ite K a).stop i H ∧ D.nx σ H) ∨ ((Ite K a).go i H ∧ ∃ N : L2.St → Hp → Prop, (∀ σ' H', N σ' H' → ∃ m', m' < m ∧ W (i + 1) m' σ' H') ∧ ∀ x H', (Ite K a).yld i H x H' → g x σ H' fun σ2 H2 => tb { D with nx := N, ct := N, bk := D.nx } σ2 H2) := by
  refine ⟨fun i m σ H => m = xs.length - i ∧ i ≤ xs.length ∧ Pv i σ H, ⟨xs.length, by simp, Nat.zero_le _, h0⟩, ?_⟩
  rintro i m σ H ⟨rfl, hi, p⟩
  have q := hl i σ H hi p
  by_cases hlt : i < xs.length
  · refine .inr ⟨⟨xs, xs[i], q, by simp [hlt]⟩, Pv (i + 1), fun σ' H' p' => ⟨xs.length - (i + 1), by omega, rfl, hlt, p'⟩, fun x H' y => ?_⟩
    obtain ⟨T, x, rfl, nT, rfl, hy⟩ := y
    exact hs i x _ _ T (hy xs q) p nT
  · have e : i = xs.length := by omega
    subst e
    exact .inl ⟨⟨xs, q, Nat.le_refl _⟩, hd σ H p⟩
/-- [.. for i, x in enumerate(list)] -/
theorem lc_enum {a : Addr} {xs : List V} {g : TG} {tt : TT} {te : TE} {vs : List Nat} {σ : L2.St} {H1 : Hp} {D : Addr} {Qd : Hp → Prop} (Pv : Nat → Hp → Prop) (h0 : Pv 0 (upd H1 D (.lst []))) (hl : ∀ i H, i ≤ xs.length → Pv i H → SqL K H a xs)
    (hs : ∀ i x H T, xs[i]? = some x → Pv i H → H T = none → g (.ref T) (wipe σ vs) (upd H T (.tup [.int (i : Nat), x])) fun σ2 H2 => wipe σ2 vs = wipe σ vs ∧ tt σ2 H2 fun b H3 =>
      if b = true then te σ2 H3 fun y H4 => ∃ acc, H4 D = some (.lst acc) ∧ acc.length < sizeLine ∧ Pv (i + 1) (upd H4 D (.lst (acc ++ [y]))) else Pv (i + 1) H3) (hd : ∀ H, Pv xs.length H → Qd H) :
    ∃ W : Nat → Nat → Hp → Prop, (∃ m, W 0 m (upd H1 D (.lst []))) ∧ ∀ i m H, W i m H →
      ((Ite K a).stop i H ∧ Qd H) ∨ ((Ite K a).go i H ∧ ∃ Nx : Hp → Prop, (∀ H', Nx H' → ∃ m', m' < m ∧ W (i + 1) m' H') ∧ ∀ x H', (Ite K a).yld i H x H' → g x (wipe σ vs) H' fun σ2 H2 => wipe σ2 vs = wipe σ vs ∧ tt σ2 H2 fun b H3 =>
        if b = true then te σ2 H3 fun y H4 => ∃ acc, H4 D = some (.lst acc) ∧ acc.length < sizeLine ∧ Nx (upd H4 D (.lst (acc ++ [y]))) else Nx H3) := by
  refine ⟨fun i m H => m = xs.length - i ∧ i ≤ xs.length ∧ Pv i H, ⟨xs.length, by simp, Nat.zero_le _, h0⟩, ?_⟩
  rintro i m H ⟨rfl, hi, p⟩
  have q := hl i H hi p
  by_cases hlt : i < xs.length
  · refine .inr ⟨⟨xs, xs[i], q, by simp [hlt]⟩, Pv (i + 1), fun H' p' => ⟨xs.length - (i + 1), by omega, rfl, hlt, p'⟩, fun x H' y => ?_⟩
    obtain ⟨T, x, rfl, nT, rfl, hy⟩ := y
    exact hs i x _ T (hy xs q) p nT
  · have e : i = xs.length := by omega
    subst e
    exact .inl ⟨⟨xs, q, Nat.le_refl _⟩, hd H p⟩
end
end Kq
namespace Kq
open PySem PySem.Spec PyProof.Rows
open L2 hiding CX0 E0 pass0 Fun fun_mk Fun.ok Fun.binds defArgs defBody defScope
open C8
/-! data: how tasks, rules, ways, standings, events stand as nested tuples -/
abbrev Task := Nat × Nat
abbrev Way := Nat × Nat × List Task
abbrev Rules := List (List (Nat × Nat))
def dI (n : Nat) : PyData := .int (n : Int)
def eK (e : Nat × Nat) : PyData := .tuple [dI e.1, dI e.2]
def eT (ts : List (Nat × Nat)) : PyData := .tuple (ts.map eK)
def eR (R : Rules) : PyData := .tuple (R.map eT)
def eB (bs : List (List Task)) : PyData := .tuple (bs.map eT)
def eW (w : Way) : PyData := .tuple [dI w.1, dI w.2.1, eT w.2.2]
def eWs (ws : List Way) : PyData := .tuple (ws.map eW)
abbrev PS := List (List Task) × List Way
def eS (s : PS) : PyData := .tuple [eB s.1, eWs s.2]
/-- the watchers' words -/
def wd : Fin 3 → Str
  | 0 => "tree"
  | 1 => "ring"
  | 2 => "coin"
inductive Ev where
  | doo (h : Nat)
  | hear (h s : Nat)
  | say (h : Nat) (x : Fin 3)
def eE : Ev → PyData
  | .doo h => .tuple [.str "do", dI h]
  | .hear h s => .tuple [.str "hear", dI h, dI s]
  | .say h x => .tuple [.str "say", dI h, .str (wd x)]
def eEs (es : List Ev) : PyData := .tuple (es.map eE)
/-- letters: (to, task) -/
def eL (l : Nat × Task) : PyData := .tuple [dI l.1, eK l.2]

/-! what reads as data -/
section
variable {K : PySem.W.Frag} {H H' : Hp}
theorem SqT.same {a : Addr} {xs : List V} (h : SqT K H a xs) (e : Same H H') : SqT K H' a xs := L2.SqT.ext h e
theorem SqL.same {a : Addr} {xs : List V} (h : SqL K H a xs) (e : Same H H') : SqL K H' a xs := L2.SqL.ext h e
mutual
theorem Dp.same (e : Same H H') : ∀ (d : PyData) (v : V), Dp K H v d → Dp K H' v d
  | .none, _, h => by cases h; exact .non
  | .bool _, _, h => by cases h; exact .bl _
  | .int _, _, h => by cases h; exact .int _
  | .str _, _, h => by cases h; exact .str _
  | .list ds, _, h => by
    cases h with
    | lst q a => exact .lst (SqL.same q e) (DpAll.same e ds _ a)
  | .tuple ds, _, h => by
    cases h with
    | tup q a => exact .tup (SqT.same q e) (DpAll.same e ds _ a)
  | .dict _, _, h => nomatch h
theorem DpAll.same (e : Same H H') : ∀ (ds : List PyData) (vs : List V), DpAll K H vs ds → DpAll K H' vs ds
  | [], _, h => by cases h; exact .nil
  | d :: ds, _, h => by
    cases h with
    | cons a b => exact .cons (Dp.same e d _ a) (DpAll.same e ds _ b)
end
/-- the heap may have changed, but no tuple that can be read -/
def KT (K : PySem.W.Frag) (H H' : Hp) : Prop := ∀ a xs, SqT K H a xs → SqT K H' a xs
theorem Same.kt (e : Same H H') : KT K H H' := fun _ _ h => SqT.same h e
/-! data without lists -/
mutual
def flatD : PyData → Bool
  | .list _ => false
  | .dict _ => false
  | .tuple ds => flatDs ds
  | _ => true
def flatDs : List PyData → Bool
  | [] => true
  | d :: ds => flatD d && flatDs ds
end
mutual
theorem Dp.kt (e : KT K H H') : ∀ (d : PyData) (v : V), flatD d = true → Dp K H v d → Dp K H' v d
  | .none, _, _, h => by cases h; exact .non
  | .bool _, _, _, h => by cases h; exact .bl _
  | .int _, _, _, h => by cases h; exact .int _
  | .str _, _, _, h => by cases h; exact .str _
  | .list ds, _, f, h => nomatch f
  | .tuple ds, _, f, h => by
    cases h with
    | tup q a => exact .tup (e _ _ q) (DpAll.kt e ds _ (by simpa [flatD] using f) a)
  | .dict _, _, _, h => nomatch h
theorem DpAll.kt (e : KT K H H') : ∀ (ds : List PyData) (vs : List V), flatDs ds = true → DpAll K H vs ds → DpAll K H' vs ds
  | [], _, _, h => by cases h; exact .nil
  | d :: ds, _, f, h => by
    cases h with
    | cons a b =>
      have f' : flatD d = true ∧ flatDs ds = true := by simpa [flatDs] using f
      exact .cons (Dp.kt e d _ f'.1 a) (DpAll.kt e ds _ f'.2 b)
end
theorem flatDs_map {α : Type} (f : α → PyData) (h : ∀ a, flatD (f a) = true) : ∀ l : List α, flatDs (l.map f) = true
  | [] => rfl
  | a :: l => by rw [List.map_cons, flatDs, h a, flatDs_map f h l]; rfl
theorem flat_I (n : Nat) : flatD (dI n) = true := rfl
theorem flat_K (e : Nat × Nat) : flatD (eK e) = true := rfl
theorem flat_T (ts : List (Nat × Nat)) : flatD (eT ts) = true := flatDs_map _ flat_K ts
theorem flat_R (R : Rules) : flatD (eR R) = true := flatDs_map _ flat_T R
theorem flat_B (b : List (List Task)) : flatD (eB b) = true := flatDs_map _ flat_T b
theorem flat_W (w : Way) : flatD (eW w) = true := by
  show (true && (true && (flatD (eT w.2.2) && true))) = true
  rw [flat_T]; rfl
theorem flat_Ws (ws : List Way) : flatD (eWs ws) = true := flatDs_map _ flat_W ws
theorem flat_S (s : PS) : flatD (eS s) = true := by
  show (flatD (eB s.1) && (flatD (eWs s.2) && true)) = true
  rw [flat_B, flat_Ws]; rfl
theorem flat_E (e : Ev) : flatD (eE e) = true := by cases e <;> rfl
theorem flat_Es (es : List Ev) : flatD (eEs es) = true := flatDs_map _ flat_E es
theorem flat_L (l : Nat × Task) : flatD (eL l) = true := rfl

/-! taking apart, putting together -/
theorem tupD {v : V} {ds : List PyData} (h : Dp K H v (.tuple ds)) : ∃ a xs, v = .ref a ∧ SqT K H a xs ∧ DpAll K H xs ds := by
  cases h with
  | tup q a => exact ⟨_, _, rfl, q, a⟩
theorem intD {v : V} {i : Int} (h : Dp K H v (.int i)) : v = .int i := by cases h; rfl
theorem strD {v : V} {x : Str} (h : Dp K H v (.str x)) : v = .str x := by cases h; rfl
theorem nilD {vs : List V} (h : DpAll K H vs []) : vs = [] := by cases h; rfl
theorem consD {vs : List V} {d : PyData} {ds : List PyData} (h : DpAll K H vs (d :: ds)) : ∃ x xs, vs = x :: xs ∧ Dp K H x d ∧ DpAll K H xs ds := by
  cases h with
  | cons a b => exact ⟨_, _, rfl, a, b⟩
theorem DpAll.len : ∀ {ds : List PyData} {vs : List V}, DpAll K H vs ds → vs.length = ds.length
  | [], _, h => by cases h; rfl
  | _ :: ds, _, h => by
    cases h with
    | cons a b => rw [List.length_cons, List.length_cons, DpAll.len b]
theorem DpAll.get : ∀ {ds : List PyData} {vs : List V} {i : Nat} {d : PyData}, DpAll K H vs ds → ds[i]? = some d → ∃ v, vs[i]? = some v ∧ Dp K H v d
  | [], _, _, _, _, e => by simp at e
  | _ :: ds, _, 0, d, h, e => by
    cases h with
    | cons a b => simp at e; subst e; exact ⟨_, rfl, a⟩
  | _ :: ds, _, i + 1, d, h, e => by
    cases h with
    | cons a b =>
      obtain ⟨v, h1, h2⟩ := DpAll.get b (i := i) (d := d) (by simpa using e)
      exact ⟨v, by simpa using h1, h2⟩
theorem DpAll.getV {ds : List PyData} {vs : List V} {i : Nat} {v : V} (h : DpAll K H vs ds) (e : vs[i]? = some v) : ∃ d, ds[i]? = some d ∧ Dp K H v d := by
  have hl := DpAll.len h
  obtain ⟨hi, _⟩ := List.getElem?_eq_some_iff.mp e
  obtain ⟨w, h1, h2⟩ := DpAll.get h (i := i) (d := ds[i]'(by omega)) (List.getElem?_eq_getElem (by omega))
  rw [e] at h1; cases h1
  exact ⟨_, List.getElem?_eq_getElem (by omega), h2⟩
theorem DpAll.app : ∀ {ds es : List PyData} {vs us : List V}, DpAll K H vs ds → DpAll K H us es → DpAll K H (vs ++ us) (ds ++ es)
  | [], _, _, _, h, g => by cases h; exact g
  | _ :: ds, _, _, _, h, g => by
    cases h with
    | cons a b => exact .cons a (DpAll.app b g)
theorem DpAll.take : ∀ {ds : List PyData} {vs : List V} (n : Nat), DpAll K H vs ds → DpAll K H (vs.take n) (ds.take n)
  | _, _, 0, _ => .nil
  | [], _, _ + 1, h => by cases h; exact .nil
  | _ :: ds, _, n + 1, h => by
    cases h with
    | cons a b => exact .cons a (DpAll.take n b)
theorem DpAll.drop : ∀ {ds : List PyData} {vs : List V} (n : Nat), DpAll K H vs ds → DpAll K H (vs.drop n) (ds.drop n)
  | _, _, 0, h => h
  | [], _, _ + 1, h => by cases h; exact .nil
  | _ :: ds, _, n + 1, h => by
    cases h with
    | cons a b => exact DpAll.drop n b
theorem DpAll.set {d : PyData} {v : V} (hv : Dp K H v d) : ∀ {ds : List PyData} {vs : List V} (n : Nat), DpAll K H vs ds → DpAll K H (vs.set n v) (ds.set n d)
  | [], _, _, h => by cases h; exact .nil
  | _ :: ds, _, 0, h => by
    cases h with
    | cons a b => exact .cons hv b
  | _ :: ds, _, n + 1, h => by
    cases h with
    | cons a b => exact .cons a (DpAll.set hv n b)
theorem DpAll.one {d : PyData} {v : V} (hv : Dp K H v d) : DpAll K H [v] [d] := .cons hv .nil
theorem Dp.new {p : Addr} {xs : List V} {ds : List PyData} (h : H p = none) (a : DpAll K H xs ds) : Dp K (upd H p (.tup xs)) (.ref p) (.tuple ds) :=
  .tup (.inl (.inl upd_same)) (DpAll.same (same_upd h) _ _ a)
theorem Dp.newL {p : Addr} {xs : List V} {ds : List PyData} (h : H p = none) (a : DpAll K H xs ds) : Dp K (upd H p (.lst xs)) (.ref p) (.list ds) :=
  .lst (.inl (.inl upd_same)) (DpAll.same (same_upd h) _ _ a)
end
end Kq
namespace Kq
open PySem PySem.Spec PyProof.Rows
open L2 hiding CX0 E0 pass0 Fun fun_mk Fun.ok Fun.binds defArgs defBody defScope
open C8
/-! sorted(list of alike data), sorted(dict with pairs of numbers as keys), dict(such a dict) -/
section
variable {X : Cx}
theorem each_of {K : PySem.W.Frag} {H : Hp} : ∀ {xs : List V} {ds : List PyData} {us : List Value}, DpAll K H xs ds → Vals xs us → PySem.W.EachIs (fun v d => ∃ y, L2.RelV y v ∧ Dp K H y d) us ds
  | _, [], _, h, r => by cases h; cases r; exact .nil
  | _, _ :: ds, _, h, r => by
    cases h with
    | cons a b =>
      cases r with
      | cons r1 r2 => exact .cons ⟨_, r1, a⟩ (each_of b r2)
theorem of_each {K : PySem.W.Frag} {H : Hp} : ∀ {us : List Value} {ds : List PyData}, PySem.W.EachIs (fun v d => ∃ y, L2.RelV y v ∧ Dp K H y d) us ds → ∃ xs, Vals xs us ∧ DpAll K H xs ds
  | _, _, .nil => ⟨[], .nil, .nil⟩
  | _, _, .cons ⟨y, r, d⟩ t => by
    obtain ⟨xs, r2, d2⟩ := of_each t
    exact ⟨y :: xs, .cons r r2, .cons d d2⟩
theorem each_reads {pins : List (Addr × Obj)} {σ : L2.St} {H : Hp} {s : Shared} (I : Inv X pins σ H s) {us : List Value} {ds : List PyData} (h : PySem.W.EachIs (fun v d => ∃ y, L2.RelV y v ∧ Dp X.K H y d) us ds) :
    PySem.W.EachIs (fun v d => ∃ as, Reads s.heap v d as) us ds := h.mono fun _ _ ⟨_, r, d⟩ => Dp.reads I _ _ _ d r
/-- sorted(xs) -/
def rSortW (K : PySem.W.Frag) : List V → Hp → VK → Prop := fun vs H Q => ∃ (a : Addr) (xs : List V) (ds : List PyData), vs = [V.ref a] ∧ SqL K H a xs ∧ DpAll K H xs ds ∧ PySem.W.AllAlike ds ∧ PySem.W.Sortable ds ∧ (∀ d ∈ ds, d.depth ≤ 60) ∧
  ∀ ys p, H p = none → DpAll K H ys (ds.mergeSort (PySem.W.dataLe false id)) → Q (.ref p) (upd H p (.lst ys))
theorem cr_sortedW {j : Nat} (hr : Room j X.A) : CallR X (.builtin "sorted") (rSortW X.K) := by
  intro pins s σ H vs us Q I r h
  obtain ⟨a, xs, ds, rfl, hs, hd, hal, hk, hdp, q⟩ := h
  obtain ⟨its, rv, hl, hz⟩ := I.list hs
  obtain ⟨u, rfl, ru⟩ := vals1 r
  obtain rfl : u = Value.ref a := ru
  have hun := hr.un
  have e := each_of hd rv
  have hlen : ds.length ≤ sizeLine := by rw [← DpAll.len hd]; exact hz
  have hal' : PySem.W.AllAlike (ds.map id) := by rw [List.map_id]; exact hal
  have hk' : PySem.W.Sortable (ds.map id) := by rw [List.map_id]; exact hk
  refine PySem.W.sorted_data (enc := id) hl.isList e (each_reads I e) hal' hk' hlen (fun d hd => by have := hdp d hd; show X.A.units + 2 + d.depth < cLine; omega) fun out ho eo => ?_
  obtain ⟨ys, ry, dy⟩ := of_each eo
  have hf : H (s.heap.objs.size + 1) = none := I.hok.fresh (Nat.le_succ _)
  obtain ⟨n, hn⟩ := sortedAll_at s.heap its out.toArray
  refine ⟨.ref (s.heap.objs.size + 1), upd H (s.heap.objs.size + 1) (.lst ys), I.laid (t' := s.toks) (fun b o e => sortedAll_old e) (Nat.le_succ _) ⟨?_, out, n, ry, hn⟩, rfl, q ys _ hf dy⟩
  rw [ry.length, ho]; exact hlen
/-- the keys of a dict that are pairs of numbers -/
def keyN (e : Nat × Nat) : List L2.Key := [Sum.inl (e.1 : Int), Sum.inl (e.2 : Int)]
theorem keyN_kV (e : Nat × Nat) : (keyN e).map kV = [.int (e.1 : Int), .int (e.2 : Int)] := rfl
theorem keyN_inj {e f : Nat × Nat} (h : keyN e = keyN f) : e = f := by
  obtain ⟨a, b⟩ := e
  obtain ⟨c, d⟩ := f
  simp only [keyN, List.cons.injEq, Sum.inl.injEq, and_true] at h
  obtain ⟨h1, h2⟩ := h
  rw [show a = c by omega, show b = d by omega]
theorem alike_K (e f : Nat × Nat) : PySem.W.alike (eK e) (eK f) = true := by simp [eK, dI, PySem.W.alike, PySem.W.alikeAll]
theorem reads_ii {h : Heap} {vs : List Value} {a b : Int} {as : List Addr} (r : ReadsAll h vs [.int a, .int b] as) : as = [] := by
  cases r with
  | cons r1 r2 =>
    cases r1
    cases r2 with
    | cons r1 r2 => cases r1; cases r2; rfl
theorem reads_K {h : Heap} {v : Value} {k : Nat × Nat} {as : List Addr} (r : Reads h v (eK k) as) : as = [] := by
  cases r with
  | tuple h1 h2 h3 h4 => exact reads_ii h4
/-- y is a key's own tuple -/
def KeyAt (H : Hp) (y : V) (k : Nat × Nat) : Prop := ∃ t, y = .ref t ∧ H t = some (.tup [.int (k.1 : Int), .int (k.2 : Int)])
/-- sorted(d) -/
def rSortK (K : PySem.W.Frag) : List V → Hp → VK → Prop := fun vs H Q => ∃ (d : Addr) (kvs : List (List L2.Key × V)) (ks : List (Nat × Nat)), vs = [V.ref d] ∧ Rd H d (.dT kvs) ∧ kvs.map (·.1) = ks.map keyN ∧ kvs.length ≤ 1000 ∧
  ∀ ys p, H p = none → Paired (KeyAt H) ys (ks.mergeSort (PySem.W.dataLe false eK)) → Q (.ref p) (upd H p (.lst ys))
theorem keys_at {H : Hp} : ∀ {kvs : List (List L2.Key × V)} {bs : List Addr} {ks : List (Nat × Nat)}, IsKeys H kvs bs → kvs.map (·.1) = ks.map keyN → Paired (KeyAt H) (bs.map V.ref) ks
  | _, _, [], .nil, _ => .nil
  | _, _, [], .cons _ _, e => by simp at e
  | _, _, k :: ks, .nil, e => by simp at e
  | _, _, k :: ks, .cons h t, e => by
    simp only [List.map_cons, List.cons.injEq] at e
    obtain ⟨e1, e2⟩ := e
    refine .cons ⟨_, rfl, ?_⟩ (keys_at t e2)
    rw [h, e1]; rfl
theorem each_at {H : Hp} : ∀ {xs : List V} {ks : List (Nat × Nat)} {us : List Value}, Paired (KeyAt H) xs ks → Vals xs us → PySem.W.EachIs (fun v k => ∃ y, L2.RelV y v ∧ KeyAt H y k) us ks
  | _, _, _, .nil, r => by cases r; exact .nil
  | _, _, _, .cons a b, r => by
    cases r with
    | cons r1 r2 => exact .cons ⟨_, r1, a⟩ (each_at b r2)
theorem at_each {H : Hp} : ∀ {us : List Value} {ks : List (Nat × Nat)}, PySem.W.EachIs (fun v k => ∃ y, L2.RelV y v ∧ KeyAt H y k) us ks → ∃ xs, Vals xs us ∧ Paired (KeyAt H) xs ks
  | _, _, .nil => ⟨[], .nil, .nil⟩
  | _, _, .cons ⟨y, r, d⟩ t => by
    obtain ⟨xs, r2, d2⟩ := at_each t
    exact ⟨y :: xs, .cons r r2, .cons d d2⟩
theorem key_dp {K : PySem.W.Frag} {H : Hp} {y : V} {k : Nat × Nat} (h : KeyAt H y k) : Dp K H y (eK k) := by
  obtain ⟨t, rfl, e⟩ := h
  exact .tup (xs := [.int (k.1 : Int), .int (k.2 : Int)]) (.inl (.inl e)) (.cons (.int _) (.cons (.int _) .nil))
theorem keys_dp {K : PySem.W.Frag} {H : Hp} : ∀ {kvs : List (List L2.Key × V)} {bs : List Addr} {ks : List (Nat × Nat)}, IsKeys H kvs bs → kvs.map (·.1) = ks.map keyN → DpAll K H (bs.map V.ref) (ks.map eK)
  | _, _, [], .nil, _ => .nil
  | _, _, [], .cons _ _, e => by simp at e
  | _, _, k :: ks, .nil, e => by simp at e
  | _, _, k :: ks, .cons h t, e => by
    simp only [List.map_cons, List.cons.injEq] at e
    obtain ⟨e1, e2⟩ := e
    refine .cons (.tup (xs := [.int (k.1 : Int), .int (k.2 : Int)]) (.inl (.inl ?_)) (.cons (.int _) (.cons (.int _) .nil))) (keys_dp t e2)
    rw [h, e1]; rfl
theorem sort_K (ks : List (Nat × Nat)) : (ks.map eK).mergeSort (PySem.W.dataLe false id) = (ks.mergeSort (PySem.W.dataLe false eK)).map eK :=
  (PySem.W.sort_maps (r := PySem.W.dataLe false eK) (s := PySem.W.dataLe false id) eK (fun _ _ _ _ => rfl)).symm
theorem cr_sortedK (hcalm : X.calm = true) {j : Nat} (hr : Room j X.A) : CallR X (.builtin "sorted") (rSortK X.K) := by
  intro pins s σ H vs us Q I r h
  obtain ⟨d, kvs, ks0, rfl, hd, hkn, h1000, q⟩ := h
  obtain ⟨u, rfl, ru⟩ := vals1 r
  obtain rfl : u = Value.ref d := ru
  have hun := hr.un
  obtain ⟨z, hs, ks, pr, o, es, ep, ho, hx, hdt, he, hn⟩ := (show ObjOk X.prog X.w H s.heap d (.dT kvs) from hd.ok I.hok)
  have l1 : es.size = ks.length := size_of_entries he
  have l2 : kvs.length = ks.length := Paired.length pr
  refine Calls.call_function_entry PyProof.Rows.kind_sorted PyProof.Rows.plain_sorted PyProof.Rows.entry_sorted (PyProof.Rows.args_sorted1 _) ?_
  unfold Builtin.«sorted»
  refine wpAny_bind (m := checkCount "sorted" 1 1 _) (wpAny_pure ?_)
  refine wpAny_bind (PySem.W.kdu_collect (A := X.A.in1) (kdl_raw hs hx hdt) (I.ok.hd hcalm) ho (by omega) fun h' tk acc hk it => ?_)
  have ea : acc.toList = (ks.map fun x => x.2.1).map Value.ref := by
    have hl : acc.toList.length = ks.length := by rw [Array.length_toList, it.1]; exact l1
    apply List.ext_getElem?
    intro j
    rw [List.getElem?_map, List.getElem?_map]
    cases hj : acc.toList[j]? with
    | none =>
      have h1 := List.getElem?_eq_none_iff.mp hj
      rw [List.getElem?_eq_none (by omega)]
      all_goals rfl
    | some v =>
      obtain ⟨en, hen, hv⟩ := it.2 j v (by rw [← Array.getElem?_toList]; exact hj)
      have qe := entry_at he j
      rw [hen] at qe
      cases hb : ks[j]? with
      | none =>
        rw [hb] at qe
        exact nomatch (show some en = none from qe)
      | some b =>
        rw [hb] at qe
        have e2 : en = entryOfKey (tupleKind (mixKind X.prog X.w)) b := Option.some.inj qe
        rw [hv, e2]
        all_goals rfl
  have I1 : Inv X pins σ H { s with heap := h', toks := tk } := I.kept hk
  have hal : acc.toList.length = ks.length := by rw [ea]; simp
  refine wpAny_bind (wpAny_newList ?_ (by rw [hal, sizeLine_eq]; omega))
  have hoL : (h'.push (seqObj "list" acc.toList.toArray 0)).get? h'.objs.size = some (seqObj "list" acc.toList.toArray 0) := Heap.get?_push_size _ rfl
  have dk : Paired (KeyAt H) ((ks.map fun x => x.2.1).map V.ref) ks0 := keys_at (isKeys_of pr) hkn
  have rv : Vals ((ks.map fun x => x.2.1).map V.ref) acc.toList := by rw [ea]; exact vals_refs _
  have e := each_at dk rv
  have I2 : Inv X pins σ H { s with heap := h'.push (seqObj "list" acc.toList.toArray 0), toks := tk } := I1.kept (t' := tk) fun _ u e => Heap.get?_push_of_some _ e
  have er : PySem.W.EachIs (fun v k => ∃ as, Reads (h'.push (seqObj "list" acc.toList.toArray 0)) v (eK k) as ∧ h'.objs.size ∉ as) acc.toList ks0 := by
    refine e.mono fun v k z => ?_
    obtain ⟨y, ry, dy⟩ := z
    obtain ⟨as, hre⟩ := Dp.reads I2 _ _ _ (key_dp (K := X.K) dy) ry
    refine ⟨as, hre, ?_⟩
    rw [reads_K hre]; simp
  have hlen : ks0.length ≤ sizeLine := by
    have := congrArg List.length hkn
    rw [List.length_map, List.length_map] at this
    rw [sizeLine_eq]; omega
  refine wpAny_bind (wpAny_holding (PySem.W.list_sort_data (A := X.A.in1) (s := { s with heap := h'.push (seqObj "list" acc.toList.toArray 0), toks := tk }) (enc := eK) hoL e er (PySem.W.AllAlike.of alike_K)
    (PySem.W.Sortable.tuples fun b => ⟨_, _, rfl⟩) hlen (fun d hd => ?_) fun out ho2 eo => ?_))
  · show X.A.units + 1 + 1 + (eK d).depth < cLine
    have : (eK d).depth = 1 := by simp [eK, dI, PyData.depth, PyData.depthAll]
    omega
  · obtain ⟨ys, ry, dy⟩ := at_each eo
    obtain ⟨e', he'⟩ := PyProof.Rows.sortedHeap_at (vs := acc.toList) (out := out.toArray) hoL
    refine wpAny_pure ⟨_, rfl, .ref h'.objs.size, upd H h'.objs.size (.lst ys), I1.laid (t' := tk) (fun b u e => ?_) (Nat.le_refl _)
      (show ObjOk X.prog X.w _ _ _ (.lst ys) from ⟨by rw [ry.length, ho2]; exact hlen, out, e', ry, he'⟩), rfl, q ys _ (I1.hok.fresh (Nat.le_refl _)) dy⟩
    have hb : b < h'.objs.size := Heap.lt_size e
    rw [PyProof.Rows.sortedHeap_old (Nat.ne_of_lt hb) (by rw [size_push']; exact Nat.lt_succ_of_lt hb)]
    exact Heap.get?_push_of_some _ e

/-! dict(d) -/
def hash36 (i : Nat) : Int := reduceHash (Builtin.Tuple.tupleHashOf [hashInt ((i / 6 : Nat) : Int), hashInt ((i % 6 : Nat) : Int)])
theorem hash36_nd : ((List.range 36).map hash36).Nodup := by decide +kernel
theorem hash36_inj {i j : Nat} (hi : i < 36) (hj : j < 36) (h : hash36 i = hash36 j) : i = j := by
  have h1 : ((List.range 36).map hash36)[i]'(by simpa using hi) = ((List.range 36).map hash36)[j]'(by simpa using hj) := by
    simpa using h
  exact (List.getElem_inj hash36_nd).mp h1
theorem hash_keyN (prog : Program) (w : World) (e : Nat × Nat) (h1 : e.1 < 6) (h2 : e.2 < 6) : (tupleKind (mixKind prog w)).hash (keyN e) = hash36 (6 * e.1 + e.2) := by
  obtain ⟨a, b⟩ := e
  show reduceHash (Builtin.Tuple.tupleHashOf [hashInt (a : Int), hashInt (b : Int)]) = _
  have e1 : (6 * a + b) / 6 = a := by simp only at h1 h2; omega
  have e2 : (6 * a + b) % 6 = b := by simp only at h1 h2; omega
  unfold hash36
  rw [e1, e2]
theorem hashes_nd (prog : Program) (w : World) : ∀ {ks : List (Nat × Nat)}, ks.Nodup → (∀ k ∈ ks, k.1 < 6 ∧ k.2 < 6) → (ks.map fun k => (tupleKind (mixKind prog w)).hash (keyN k)).Nodup
  | [], _, _ => by simp
  | k :: ks, hn, hb => by
    rw [List.nodup_cons] at hn
    rw [List.map_cons, List.nodup_cons]
    refine ⟨fun hm => ?_, hashes_nd prog w hn.2 fun k hk => hb k (List.mem_cons_of_mem _ hk)⟩
    obtain ⟨k', hk', e⟩ := List.mem_map.mp hm
    have b1 := hb k List.mem_cons_self
    have b2 := hb k' (List.mem_cons_of_mem _ hk')
    rw [hash_keyN prog w k b1.1 b1.2, hash_keyN prog w k' b2.1 b2.2] at e
    have := hash36_inj (by omega) (by omega) e
    have e1 : k'.1 = k.1 := by omega
    have e2 : k'.2 = k.2 := by omega
    exact hn.1 (by rw [show k = k' from Prod.ext e1.symm e2.symm]; exact hk')
/-- dict(d) -/
def rDictT : List V → Hp → VK → Prop := fun vs H Q => ∃ (d : Addr) (kvs : List (List L2.Key × V)) (ks : List (Nat × Nat)), vs = [V.ref d] ∧ Rd H d (.dT kvs) ∧ kvs.map (·.1) = ks.map keyN ∧ (∀ k ∈ ks, k.1 < 6 ∧ k.2 < 6) ∧ kvs.length ≤ 1000 ∧
  ∀ p, H p = none → Q (.ref p) (upd H p (.dT kvs))
end
section
variable {prog : Program} {w : World} {K : Type} [DecidableEq K] {knd : HeapKind prog w K} {A : Around} {E : Value → Shared → Prop} {s : Shared}
theorem call_dict_heap {o : Addr} {more : List (K × Addr × Value)} {Q : Value → Shared → Prop} (hu : knd.room A.in1.in1) (hoS : (o == sysModules) = false) (ho : s.heap.DictOfH knd o more) (hsz : more.length ≤ sizeLine)
    (hap : (∀ x ∈ more, s.TypeIs (.ref x.2.1) "tuple") ∧ (more.map fun x => knd.hash x.1).Nodup) (hst : ∀ h' : Heap, (∀ b o, s.heap.get? b = some o → h'.get? b = some o) → h'.DictOfH knd o more)
    (h : ∀ h' : Heap, h'.DictOfH knd s.heap.objs.size more → Heap.SameBut s.heap.objs.size (s.heap.push { cls := .type "dict", data := .dict #[] }) h' → Q (.ref s.heap.objs.size) { s with heap := h' }) :
    wpAny (model prog w) A (call (.type "dict") [.ref o]) Q E s := by
  refine callType_codes (Q₁ := fun obj s₁ => obj = .ref s.heap.objs.size ∧ s₁ = { s with heap := s.heap.push { cls := .type "dict", data := .dict #[] } }) PySem.F.kt_called_dict (PySem.F.kt_typeCall_dict_1 _) PySem.F.entry_dict_init (kt_code_dict_new _ ⟨rfl, rfl⟩) ?_
  rintro obj s₁ ⟨rfl, rfl⟩
  have hnew : (s.heap.push { cls := .type "dict", data := .dict #[] }).DictOfH knd s.heap.objs.size [] := Heap.DictOfH.new s.heap
  have ho' : (s.heap.push { cls := .type "dict", data := .dict #[] }).DictOfH knd o more := hst _ fun b o e => Heap.get?_push_of_some _ e
  have hdo : s.heap.objs.size ≠ o := by
    obtain ⟨_, _, _, hg, _⟩ := ho
    exact fun e => absurd (Heap.lt_size hg) (by rw [e]; exact Nat.lt_irrefl _)
  have hn := ho.nodup
  refine ⟨hnew.typeIs, PySem.F.args_dict_init_2 _ _, ?_⟩
  unfold Builtin.«dict.__init__»
  refine wpAny_bind ?_
  unfold Builtin.Dict.selfAndRest
  refine wpAny_bind (wpAny_notOrdered_dict hnew.typeIs ?_)
  show wpAny _ _ (pure (s.heap.objs.size, [Value.ref o])) _ _ _
  refine wpAny_pure ?_
  show wpAny _ _ (Builtin.Dict.updateFrom "dict.__init__" s.heap.objs.size (.ref o) [] .none) _ _ _
  refine updateFrom_dictH (knd := knd) .none hu hdo hoS hnew ho' (.inr ⟨fun x hx => ?_, hap.2⟩) (by simpa using hsz) fun h' hd' _ hs' => ?_
  · obtain ⟨oo, h1, h2⟩ := hap.1 x hx
    exact ⟨oo, Heap.get?_push_of_some _ h1, h2⟩
  · rw [storedAllH_nil_of_nodup more hn] at hd'
    exact ⟨rfl, h h' hd' hs'⟩
end
section
variable {X : Cx}
theorem call_dict_dT {j : Nat} (hr : Room j X.A) : CallR X (.type "dict") rDictT := by
  intro pins s σ H xs us Q I r q
  obtain ⟨a, kvs, ks, rfl, hd, hkn, hb, h1000, q⟩ := q
  obtain ⟨u, rfl, rx⟩ := vals1 r
  cases rx
  obtain ⟨z, lo, vs, rel, dd⟩ := dt_rd I.hok hd
  have hun := hr.un
  have l2 : kvs.length = vs.length := Paired.length rel
  have hk : vs.map (·.1) = ks.map keyN := by
    rw [← hkn]
    clear hd hkn h1000 q z dd l2
    induction rel with
    | nil => rfl
    | cons h t ih => rw [List.map_cons, List.map_cons, ih, h.1]
  have hnd : ks.Nodup := by
    have := dd.nodup
    rw [hk] at this
    exact (List.pairwise_map.mp this).imp fun h e => h (congrArg keyN e)
  refine call_dict_heap (knd := tupleKind (mixKind X.prog X.w)) ?_ lo dd (by omega) ⟨fun x hx => ?_, ?_⟩ (fun h' hk' => ?_) fun h' dd' hs => ?_
  · exact tupleKind_room_in1 (A := X.A.in1) (show X.A.units + 1 + 1 < cLine by omega)
  · obtain ⟨_, _, _, _, _, _, _, his, _⟩ := dd
    exact tupleKind_stays.tuple (his x hx)
  · have e : vs.map (fun x => (tupleKind (mixKind X.prog X.w)).hash x.1) = ks.map fun k => (tupleKind (mixKind X.prog X.w)).hash (keyN k) := by
      have := congrArg (List.map (tupleKind (mixKind X.prog X.w)).hash) hk
      rw [List.map_map, List.map_map] at this
      exact this
    rw [e]
    exact hashes_nd X.prog X.w hnd hb
  · obtain ⟨o, es, ep, h1, h2, h3, h4, h5, h6⟩ := dd
    exact ⟨o, es, ep, hk' _ _ h1, h2, h3, h4, fun y hy => tupleKind_stays.stays (fun b o _ _ e _ => hk' b o e) (h5 y hy), h6⟩
  · have hf : H s.heap.objs.size = none := I.hok.fresh (Nat.le_refl _)
    have kp : ∀ b u, s.heap.get? b = some u → h'.get? b = some u := fun b u e => (hs.2 b (Nat.ne_of_lt (Heap.lt_size e))).trans (Heap.get?_push_of_some _ e)
    refine ⟨.ref s.heap.objs.size, upd H s.heap.objs.size (.dT kvs), I.laid (t' := s.toks) kp (Nat.le_refl _) ?_, rfl, q _ hf⟩
    have hm : (s.heap.objs.size == sysModules) = false := beq_eq_false_iff_ne.mpr (Nat.ne_of_gt I.big)
    obtain ⟨o, es, ep, h1, h2, h3, h4, _, h6⟩ := dd'
    exact ⟨z, hm, vs, rel.keeps fun c ys ec => by rw [upd_ne (ne_of_none ec hf)]; exact ec, o, es, ep, h1, h2, h3, h4, h6⟩
end
end Kq
namespace Kq
open PySem PySem.Spec PyProof.Rows
open L2 hiding CX0 E0 pass0 Fun fun_mk Fun.ok Fun.binds defArgs defBody defScope
open C8
/-! the rules that speak of the written part, with K told: so they may stand within a comprehension's block -/
section
variable {X : Cx} (K : PySem.W.Frag)
theorem pgt (n : Nat) {es : List Expr} {k : Nat} {pos : Pos} {t : TGs} (h : PGs X es t) (hc : X.calm = true := by rfl)
    (hn : (assignEach es X.env).length = n := by rfl) (hst : (assignEach es X.env).findIdx? (·.1) = none := by rfl) (hK : X.K = K := by rfl) : PG X (.Tuple es k pos) (gTup K n t) := by
  subst hK; exact pg_tup hc h hn hst
theorem kfld {e : Expr} {ta : TE} {f : Str} {pos : Pos} (he : PE X e ta) (hb : attributeBase e f X.env (eval e X.env) = eval e X.env := by rfl) (hK : X.K = K := by rfl) : PE X (.Attribute e f pos) (tFld K ta f) := by
  subst hK; exact pe_fld he hb
theorem kixT (hK : X.K = K := by rfl) : IxR X (rIxT K) := by subst hK; exact ix_tup
theorem kixL (hK : X.K = K := by rfl) : IxR X (rIxL K) := by subst hK; exact ix_list
theorem kslT (hK : X.K = K := by rfl) : SlR X (rSlA K) := by subst hK; exact sl_tupA
theorem kslL (hK : X.K = K := by rfl) : SlR X (rSlL K) := by subst hK; exact sl_list
theorem kcat (hK : X.K = K := by rfl) : OpR X (binaryOp .Add) (rCatA K) := by subst hK; exact op_catA
theorem krep (hK : X.K = K := by rfl) : OpR X (binaryOp .Mult) (rRepA K) := by subst hK; exact op_repA
theorem keqD {j : Nat} {A : Around} (hr : Room j A) (hA : X.A = A := by rfl) (hK : X.K = K := by rfl) : OpR X (compareOp .Eq) (rEqD K) := by subst hK hA; exact op_eqD hr.units
theorem kneD {j : Nat} {A : Around} (hr : Room j A) (hA : X.A = A := by rfl) (hK : X.K = K := by rfl) : OpR X (compareOp .NotEq) (rNeD K) := by subst hK hA; exact op_neD hr.units
theorem kin (hK : X.K = K := by rfl) : OpR X (compareOp .In) (rIn K false) := by subst hK; exact op_in_seq
theorem klen (hK : X.K = K := by rfl) : CallR X (.builtin "len") (fun xs H Q => ∃ p ys, xs = [.ref p] ∧ (SqL K H p ys ∨ SqT K H p ys) ∧ Q (.int ys.length) H) := by subst hK; exact call_len_seq
theorem kisi (hK : X.K = K := by rfl) : CallR X (.builtin "isinstance") (rIsi K) := by subst hK; exact call_isi
theorem kall (hc : X.calm = true := by rfl) (hK : X.K = K := by rfl) : CallR X (.builtin "all") (rAll K) := by subst hK; exact cr_all hc
theorem ksum (hc : X.calm = true := by rfl) (hK : X.K = K := by rfl) : CallR X (.builtin "sum") (rSum K) := by subst hK; exact cr_sum hc
theorem ktupO (hK : X.K = K := by rfl) : CallR X (.type "tuple") (fun xs H Q => ∃ p ys, xs = [.ref p] ∧ ((SqL K H p ys ∧ ∀ l, H l = none → Q (.ref l) (upd H l (.tup ys))) ∨ (SqT K H p ys ∧ Q (.ref p) H))) := by subst hK; exact call_tuple_of
theorem klstO (hK : X.K = K := by rfl) : CallR X (.type "list") (fun xs H Q => ∃ p ys, xs = [.ref p] ∧ (SqL K H p ys ∨ SqT K H p ys) ∧ ∀ l, H l = none → Q (.ref l) (upd H l (.lst ys))) := by subst hK; exact call_list_of
theorem ksortW {j : Nat} {A : Around} (hr : Room j A) (hA : X.A = A := by rfl) (hK : X.K = K := by rfl) : CallR X (.builtin "sorted") (rSortW K) := by subst hK hA; exact cr_sortedW hr
theorem ksortK {j : Nat} {A : Around} (hr : Room j A) (hc : X.calm = true := by rfl) (hA : X.A = A := by rfl) (hK : X.K = K := by rfl) : CallR X (.builtin "sorted") (rSortK K) := by subst hK hA; exact cr_sortedK hc hr
theorem kdict {j : Nat} {A : Around} (hr : Room j A) (hA : X.A = A := by rfl) : CallR X (.type "dict") rDictT := by subst hA; exact call_dict_dT hr
theorem kiTup {tg e : Expr} {tl : TE} (he : PE X e tl) (hc : X.calm = true := by rfl) (hK : X.K = K := by rfl) : PI X tg e (iTup K tl) := by subst hK; exact pi_tup he
theorem kiList {tg e : Expr} {tl : TE} (he : PE X e tl) (hc : X.calm = true := by rfl) (hK : X.K = K := by rfl) : PI X tg e (iList K tl) := by subst hK; exact pi_list he
end
end Kq
namespace Kq
open PySem PySem.Spec PyProof.Rows
open L2 hiding CX0 E0 pass0 Fun fun_mk Fun.ok Fun.binds defArgs defBody defScope
open C8
/-! checks.py -/
section
variable {P : Program} {w : World} {K : PySem.W.Frag} {mg : Str → Option Value} {base : Heap} {CW CR : Addr}
abbrev N_p_is_integer : List Str := ["thing"]
theorem sc_p_is_integer : FnScope N_p_is_integer ["thing"] (fnScope s_p_is_integer) := fnScope_by (by decide +kernel)
abbrev N_p_is_within : List Str := ["thing", "least", "most"]
theorem sc_p_is_within : FnScope N_p_is_within ["thing", "least", "most"] (fnScope s_p_is_within) := fnScope_by (by decide +kernel)
abbrev N_p_is_below : List Str := ["thing", "many"]
theorem sc_p_is_below : FnScope N_p_is_below ["thing", "many"] (fnScope s_p_is_below) := fnScope_by (by decide +kernel)
abbrev N_p_is_sized : List Str := ["thing", "least", "most"]
theorem sc_p_is_sized : FnScope N_p_is_sized ["thing", "least", "most"] (fnScope s_p_is_sized) := fnScope_by (by decide +kernel)
abbrev N_p_is_pair : List Str := ["thing"]
theorem sc_p_is_pair : FnScope N_p_is_pair ["thing"] (fnScope s_p_is_pair) := fnScope_by (by decide +kernel)
abbrev N_p_replaced : List Str := ["items", "number", "item"]
theorem sc_p_replaced : FnScope N_p_replaced ["items", "number", "item"] (fnScope s_p_replaced) := fnScope_by (by decide +kernel)
def spIsInteger : Sp := fun vs H Q _ => ∃ i : Int, vs = [.int i] ∧ Q (.bl true) H
theorem c_p_is_integer (T : Tx K mg CW CR) : Cal P w K mg base 1 "is_integer" spIsInteger [] := by
  obtain ⟨f, fd, F, df⟩ := T.d_p_is_integer.ex
  refine cal0 F (F.fn.binds df b_p_is_integer) .nil sc_p_is_integer (fun vs H Q E h => ?_) (fun cdv A outer s H vs Q E hr h => ?_)
  · obtain ⟨i, rfl, _⟩ := h; rfl
  · obtain ⟨i, rfl, q⟩ := h
    refine ⟨_, (pss_one (ps_ret (pe_and (pe_callB (kisi K) (by rfl) T.z_isinstance (by decide +kernel) (pa_cons (pv 0) (pa_cons (pe_bltn (by rfl) T.z_int (by decide +kernel) (show RelV (.ty "int") _ from rfl)) pa_nil))) (pe_one (pe_not (pe_callB (kisi K) (by rfl) T.z_isinstance (by decide +kernel) (pa_cons (pv 0) (pa_cons (pe_bltn (by rfl) T.z_bool (by decide +kernel) (show RelV (.ty "bool") _ from rfl)) pa_nil)))))))), ?_⟩
    refine ⟨.int i, rfl, _, _, _, _, true, rfl, .ty "int", .base (.int i), kit_ty (by decide +kernel), true, rfl, iteT ?_⟩
    exact ⟨.int i, rfl, _, _, _, _, false, rfl, .ty "bool", .base (.int i), kit_ty (by decide +kernel), false, rfl, q⟩
def wit (i a b : Int) : Bool := decide (a ≤ i) && decide (i ≤ b)
def spWithin : Sp := fun vs H Q _ => ∃ i a b : Int, vs = [.int i, .int a, .int b] ∧ Q (.bl (wit i a b)) H
theorem c_p_is_within (T : Tx K mg CW CR) : Cal P w K mg base 2 "is_within" spWithin [] := by
  have c_p_is_integer := c_p_is_integer (P := P) (w := w) (base := base) T
  obtain ⟨f, fd, F, df⟩ := T.d_p_is_within.ex
  refine cal0 F (F.fn.binds df b_p_is_within) .nil sc_p_is_within (fun vs H Q E h => ?_) (fun cdv A outer s H vs Q E hr h => ?_)
  · obtain ⟨i, a, b, rfl, _⟩ := h; rfl
  · obtain ⟨i, a, b, rfl, q⟩ := h
    refine ⟨_, (pss_one (ps_ret (pe_and (pe_c c_p_is_integer hr (by decide) (by rfl) (pa_cons (pv 0) pa_nil)) (pe_one (pe_chain op_le op_le (pv 1) (pv 0) (pv 2)))))), ?_⟩
    refine ⟨.int i, rfl, i, rfl, true, rfl, iteT ?_⟩
    refine ⟨.int a, rfl, .int i, rfl, _, _, rfl, rfl, _, rfl, ite2 (fun e => ?_) (fun e => ?_)⟩
    · refine ⟨.int b, rfl, _, _, rfl, rfl, ?_⟩
      unfold wit at q
      rw [e, Bool.true_and] at q
      exact q
    · unfold wit at q
      rw [Bool.eq_false_iff.mpr e, Bool.false_and] at q
      exact q
def spBelow : Sp := fun vs H Q _ => ∃ i n : Int, vs = [.int i, .int n] ∧ Q (.bl (wit i 0 (n - 1))) H
theorem c_p_is_below (T : Tx K mg CW CR) : Cal P w K mg base 3 "is_below" spBelow [] := by
  have c_p_is_within := c_p_is_within (P := P) (w := w) (base := base) T
  obtain ⟨f, fd, F, df⟩ := T.d_p_is_below.ex
  refine cal0 F (F.fn.binds df b_p_is_below) .nil sc_p_is_below (fun vs H Q E h => ?_) (fun cdv A outer s H vs Q E hr h => ?_)
  · obtain ⟨i, n, rfl, _⟩ := h; rfl
  · obtain ⟨i, n, rfl, q⟩ := h
    refine ⟨_, (pss_one (ps_ret (pe_c c_p_is_within hr (by decide) (by rfl) (pa_cons (pv 0) (pa_cons pe_int (pa_cons (pe_op op_sub (pv 1) pe_int) pa_nil)))))), ?_⟩
    exact ⟨.int i, rfl, .int n, rfl, n, 1, rfl, rfl, i, 0, n - 1, rfl, q⟩
def spSized (K : PySem.W.Frag) : Sp := fun vs H Q _ => ∃ (a : Addr) (xs : List V) (lo hi : Int), vs = [.ref a, .int lo, .int hi] ∧ SqT K H a xs ∧ Q (.bl (wit xs.length lo hi)) H
theorem tyT {H : Hp} {a : Addr} {xs : List V} (h : SqT K H a xs) : TyX K H (.ref a) (.type "tuple") := by
  rcases h with (h | ⟨o, h⟩) | ⟨o, its, n, hk, hc, _⟩
  · exact .base (.tup h)
  · exact .fTuple h
  · exact .kTuple hk hc
theorem c_p_is_sized (T : Tx K mg CW CR) : Cal P w K mg base 1 "is_sized" (spSized K) [] := by
  obtain ⟨f, fd, F, df⟩ := T.d_p_is_sized.ex
  refine cal0 F (F.fn.binds df b_p_is_sized) .nil sc_p_is_sized (fun vs H Q E h => ?_) (fun cdv A outer s H vs Q E hr h => ?_)
  · obtain ⟨a, xs, lo, hi, rfl, _⟩ := h; rfl
  · obtain ⟨a, xs, lo, hi, rfl, hs, q⟩ := h
    refine ⟨_, (pss_one (ps_ret (pe_and (pe_callB (kisi K) (by rfl) T.z_isinstance (by decide +kernel) (pa_cons (pv 0) (pa_cons (pe_bltn (by rfl) T.z_tuple (by decide +kernel) (show RelV (.ty "tuple") _ from rfl)) pa_nil))) (pe_one (pe_chain op_le op_le (pv 1) (pe_callB (klen K) (by rfl) T.z_len (by decide +kernel) (pa_cons (pv 0) pa_nil)) (pv 2)))))), ?_⟩
    refine ⟨.ref a, rfl, _, _, _, _, true, rfl, .ty "tuple", tyT hs, kit_ty (by decide +kernel), true, rfl, iteT ?_⟩
    refine ⟨.int lo, rfl, .ref a, rfl, a, xs, rfl, .inr hs, _, _, rfl, rfl, _, rfl, ite2 (fun e => ?_) (fun e => ?_)⟩
    · refine ⟨.int hi, rfl, _, _, rfl, rfl, ?_⟩
      unfold wit at q
      rw [e, Bool.true_and] at q
      exact q
    · unfold wit at q
      rw [Bool.eq_false_iff.mpr e, Bool.false_and] at q
      exact q
def spPair (K : PySem.W.Frag) : Sp := fun vs H Q _ => ∃ (a : Addr) (xs : List V), vs = [.ref a] ∧ SqT K H a xs ∧ Q (.bl (wit xs.length 2 2)) H
theorem c_p_is_pair (T : Tx K mg CW CR) : Cal P w K mg base 2 "is_pair" (spPair K) [] := by
  have c_p_is_sized := c_p_is_sized (P := P) (w := w) (base := base) T
  obtain ⟨f, fd, F, df⟩ := T.d_p_is_pair.ex
  refine cal0 F (F.fn.binds df b_p_is_pair) .nil sc_p_is_pair (fun vs H Q E h => ?_) (fun cdv A outer s H vs Q E hr h => ?_)
  · obtain ⟨a, xs, rfl, _⟩ := h; rfl
  · obtain ⟨a, xs, rfl, hs, q⟩ := h
    refine ⟨_, (pss_one (ps_ret (pe_c c_p_is_sized hr (by decide) (by rfl) (pa_cons (pv 0) (pa_cons pe_int (pa_cons pe_int pa_nil)))))), ?_⟩
    exact ⟨.ref a, rfl, a, xs, 2, 2, rfl, hs, q⟩

/-! tuples put together, cut -/
theorem catA_mk {H : Hp} {a b : Addr} {xs ys : List V} {Q : VK} (ha : SqT K H a xs) (hb : SqT K H b ys) (hz : xs.length + ys.length ≤ sizeLine) (q : ∀ H' p, Same H H' → SqT K H' p (xs ++ ys) → Q (.ref p) H') : rCatA K (.ref a) (.ref b) H Q :=
  ⟨a, b, xs, ys, rfl, rfl, ha, hb, hz, fun e => q H b (Same.refl H) (by rw [e]; exact hb), fun _ e => q H a (Same.refl H) (by rw [e, List.append_nil]; exact ha), fun _ _ p hp => q _ p (same_upd hp) (.inl (.inl upd_same))⟩
theorem slA_mk {H : Hp} {a : Addr} {xs : List V} {lo hi : Option Int} {Q : VK} (ha : SqT K H a xs) (q : ∀ H' p, Same H H' → SqT K H' p (cutV xs lo hi) → Q (.ref p) H') : rSlA K (.ref a) lo hi H Q :=
  ⟨a, xs, rfl, ha, fun e => q H a (Same.refl H) (by
    have : cutV xs lo hi = xs := by
      unfold cutV
      rw [e.1, e.2, List.drop_zero, Nat.sub_zero, List.take_length]
    rw [this]; exact ha), fun _ p hp => q _ p (same_upd hp) (.inl (.inl upd_same))⟩
theorem cut_to (xs : List V) (n : Nat) : cutV xs none (some (n : Int)) = xs.take n := by
  unfold cutV
  rw [HT.sIx_none, HT.sIx_nat, List.drop_zero, Nat.sub_zero]
  by_cases h : n ≤ xs.length
  · rw [Nat.min_eq_left h]
  · rw [Nat.min_eq_right (by omega), List.take_length, List.take_of_length_le (by omega)]
theorem cut_from (xs : List V) (n : Nat) : cutV xs (some (n : Int)) none = xs.drop n := by
  unfold cutV
  rw [HT.sIx_none, HT.sIx_nat]
  by_cases h : n ≤ xs.length
  · rw [Nat.min_eq_left h]
    exact List.take_of_length_le (by rw [List.length_drop]; omega)
  · rw [Nat.min_eq_right (by omega), Nat.sub_self, List.take_zero, List.drop_of_length_le (by omega)]
def spReplaced (K : PySem.W.Frag) : Sp := fun vs H Q _ => ∃ (a : Addr) (xs : List V) (n : Nat) (x : V), vs = [.ref a, .int (n : Int), x] ∧ SqT K H a xs ∧ n < xs.length ∧ xs.length ≤ 1000 ∧
  ∀ H' p, Same H H' → SqT K H' p (xs.set n x) → Q (.ref p) H'
theorem c_p_replaced (T : Tx K mg CW CR) : Cal P w K mg base 1 "replaced" (spReplaced K) [] := by
  obtain ⟨f, fd, F, df⟩ := T.d_p_replaced.ex
  refine cal0 F (F.fn.binds df b_p_replaced) .nil sc_p_replaced (fun vs H Q E h => ?_) (fun cdv A outer s H vs Q E hr h => ?_)
  · obtain ⟨a, xs, n, x, rfl, _⟩ := h; rfl
  · obtain ⟨a, xs, n, x, rfl, hs, hn, hz, q⟩ := h
    have z := sizeLine_eq
    refine ⟨_, (pss_one (ps_ret (pe_op (kcat K) (pe_op (kcat K) (pe_slice (kslT K) (pv 0) po_none (po_some (pv 1))) (pe_tup (pa_cons (pv 2) pa_nil))) (pe_slice (kslT K) (pv 0) (po_some (pe_op op_add (pv 1) pe_int)) po_none)))), ?_⟩
    refine ⟨.ref a, rfl, .int n, rfl, n, rfl, slA_mk hs fun H1 p1 e1 s1 => ?_⟩
    refine ⟨x, rfl, (by show 1 ≤ sizeLine; decide), fun p2 n2 => ?_⟩
    have e2 := same_upd (o := .tup [x]) n2
    refine catA_mk (SqT.same s1 e2) (.inl (.inl upd_same)) (by rw [cut_to]; simp only [List.length_take, List.length_cons, List.length_nil]; omega) fun H3 p3 e3 s3 => ?_
    refine ⟨.ref a, rfl, .int n, rfl, n, 1, rfl, rfl, (n : Int) + 1, rfl, ?_⟩
    unfold tNoPart
    refine slA_mk (SqT.same hs (e1.trans (e2.trans e3))) fun H4 p4 e4 s4 => ?_
    rw [cut_to] at s3
    have c4 : cutV xs (some ((n : Int) + 1)) none = xs.drop (n + 1) := cut_from xs (n + 1)
    rw [c4] at s4
    refine catA_mk (SqT.same s3 e4) s4 (by simp only [List.length_take, List.length_append, List.length_drop, List.length_cons, List.length_nil]; omega) fun H5 p5 e5 s5 => ?_
    refine q H5 p5 (e1.trans (e2.trans (e3.trans (e4.trans e5)))) ?_
    have : xs.set n x = xs.take n ++ [x] ++ xs.drop (n + 1) := by
      rw [List.set_eq_take_append_cons_drop, if_pos hn, List.append_assoc]; rfl
    rw [this]; exact s5
end
end Kq
namespace Kq
open PySem PySem.Spec PyProof.Rows
open L2 hiding CX0 E0 pass0 Fun fun_mk Fun.ok Fun.binds defArgs defBody defScope
open C8
/-! comprehensions that make data: what holds ahead of the i-th turn -/
section
variable {K : PySem.W.Frag} {H H1 H3 H4 : Hp} {D : Addr} {α : Type}
/-- D holds the data fo a of those of the first i items a of l that p takes; all that was tracked in H1 is as it was -/
def PvM (K : PySem.W.Frag) (H1 : Hp) (D : Addr) (l : List α) (p : α → Bool) (fo : α → PyData) (i : Nat) (H : Hp) : Prop :=
  Same H1 H ∧ ∃ acc, H D = some (.lst acc) ∧ DpAll K H acc (((l.take i).filter p).map fo)
theorem kt_list {p : Addr} {xs ys : List V} (h : H p = some (.lst xs)) : KT K H (upd H p (.lst ys)) := fun a zs q => by
  rcases q with (q | ⟨o, q⟩) | q
  · exact .inl (.inl (by rw [upd_ne (ne_of q h (fun z => by cases z))]; exact q))
  · exact .inl (.inr ⟨o, by rw [upd_ne (ne_of q h (fun z => by cases z))]; exact q⟩)
  · exact .inr q
variable {l : List α} {p : α → Bool} {fo : α → PyData} {i : Nat} {a : α}
theorem PvM.zero (h : H1 D = none) : PvM K H1 D l p fo 0 (upd H1 D (.lst [])) := ⟨same_upd h, [], upd_same, .nil⟩
theorem PvM.same (h : PvM K H1 D l p fo i H) : Same H1 H := h.1
theorem PvM.step (h : PvM K H1 D l p fo i H) (hD : H1 D = none) (hl : l.length < sizeLine) (ha : l[i]? = some a) (hp : p a = true) (hfl : ∀ a, flatD (fo a) = true) (e : Same H H4) {y : V} (hy : Dp K H4 y (fo a)) :
    ∃ acc, H4 D = some (.lst acc) ∧ acc.length < sizeLine ∧ PvM K H1 D l p fo (i + 1) (upd H4 D (.lst (acc ++ [y]))) := by
  obtain ⟨s, acc, hd, hda⟩ := h
  have hd4 := e _ _ hd
  have hi := (List.getElem?_eq_some_iff.mp ha).1
  refine ⟨acc, hd4, ?_, fun b o q => ?_, _, upd_same, ?_⟩
  · have := DpAll.len hda
    rw [List.length_map] at this
    have h2 := List.length_filter_le p (l.take i)
    rw [List.length_take] at h2
    omega
  · rw [upd_ne (ne_of_none q hD)]
    exact e _ _ (s _ _ q)
  · rw [List.take_add_one, ha, List.filter_append, List.map_append]
    have e1 : [a].filter p = [a] := by rw [List.filter_cons, if_pos hp]; rfl
    show DpAll K _ (acc ++ [y]) (_ ++ ([a].filter p).map fo)
    rw [e1]
    have kt := kt_list (K := K) (ys := acc ++ [y]) hd4
    exact DpAll.app (DpAll.kt kt _ _ (flatDs_map _ hfl _) (DpAll.same e _ _ hda)) (.cons (Dp.kt kt _ _ (hfl a) hy) .nil)
theorem PvM.skip (h : PvM K H1 D l p fo i H) (ha : l[i]? = some a) (hp : p a = false) (e : Same H H3) : PvM K H1 D l p fo (i + 1) H3 := by
  obtain ⟨s, acc, hd, hda⟩ := h
  refine ⟨s.trans e, acc, e _ _ hd, ?_⟩
  rw [List.take_add_one, ha, List.filter_append, List.map_append]
  have e1 : [a].filter p = [] := by rw [List.filter_cons, if_neg (by rw [hp]; exact Bool.false_ne_true)]; rfl
  show DpAll K _ acc (_ ++ ([a].filter p).map fo)
  rw [e1, List.map_nil, List.append_nil]
  exact DpAll.same e _ _ hda
theorem PvM.done {n : Nat} (h : PvM K H1 D l p fo n H) (hn : l.length ≤ n) : Same H1 H ∧ ∃ acc, H D = some (.lst acc) ∧ DpAll K H acc ((l.filter p).map fo) := by
  obtain ⟨s, acc, hd, hda⟩ := h
  rw [List.take_of_length_le hn] at hda
  exact ⟨s, acc, hd, hda⟩
/-- no test -/
theorem yesT {σ : L2.St} {H : Hp} {A B : Hp → Prop} (h : A H) : tYes σ H (fun b H3 => if b = true then A H3 else B H3) := by
  show if true = true then A H else B H
  exact iteT h
/-- all items are taken -/
def every {α : Type} : α → Bool := fun _ => true
theorem filter_every (l : List α) : l.filter every = l := by simp [every]
theorem item_of {enc : α → PyData} {xs : List V} {x : V} (h : DpAll K H xs (l.map enc)) (e : xs[i]? = some x) : ∃ a, l[i]? = some a ∧ Dp K H x (enc a) := by
  obtain ⟨d, h1, h2⟩ := DpAll.getV h e
  rw [List.getElem?_map] at h1
  cases q : l[i]? with
  | none => rw [q] at h1; cases h1
  | some a => rw [q] at h1; cases h1; exact ⟨a, rfl, h2⟩
theorem item_at {enc : α → PyData} {xs : List V} (h : DpAll K H xs (l.map enc)) (e : l[i]? = some a) : ∃ x, xs[i]? = some x ∧ Dp K H x (enc a) :=
  DpAll.get h (by rw [List.getElem?_map, e]; rfl)
theorem bools_of {t : α → Bool} : ∀ {l : List α} {acc : List V}, DpAll K H acc (l.map fun a => .bool (t a)) → acc = (l.map t).map V.bl
  | [], _, h => by cases h; rfl
  | a :: l, _, h => by
    cases h with
    | cons h1 h2 => cases h1; rw [bools_of h2]; rfl
theorem ints_of {t : α → Int} : ∀ {l : List α} {acc : List V}, DpAll K H acc (l.map fun a => .int (t a)) → acc = (l.map t).map V.int
  | [], _, h => by cases h; rfl
  | a :: l, _, h => by
    cases h with
    | cons h1 h2 => cases h1; rw [ints_of h2]; rfl
theorem ints_to {t : α → Int} : ∀ (l : List α), DpAll K H ((l.map t).map V.int) (l.map fun a => .int (t a))
  | [] => .nil
  | a :: l => .cons (.int _) (ints_to l)
/-- a pair of numbers, taken apart -/
theorem pairD {v : V} {e : Nat × Nat} (h : Dp K H v (eK e)) : ∃ t, v = .ref t ∧ SqT K H t [.int (e.1 : Int), .int (e.2 : Int)] := by
  obtain ⟨t, xs, rfl, q, a⟩ := tupD h
  obtain ⟨x, xs1, rfl, d1, a⟩ := consD a
  obtain ⟨y, xs2, rfl, d2, a⟩ := consD a
  cases nilD a
  rw [intD d1, intD d2] at q
  exact ⟨t, rfl, q⟩
theorem pairMk {t : Addr} {e : Nat × Nat} (q : SqT K H t [.int (e.1 : Int), .int (e.2 : Int)]) : Dp K H (.ref t) (eK e) := .tup q (.cons (.int _) (.cons (.int _) .nil))
theorem tasksD {v : V} {ts : List (Nat × Nat)} (h : Dp K H v (eT ts)) : ∃ t xs, v = .ref t ∧ SqT K H t xs ∧ DpAll K H xs (ts.map eK) ∧ xs.length = ts.length := by
  obtain ⟨t, xs, rfl, q, a⟩ := tupD h
  exact ⟨t, xs, rfl, q, a, by rw [DpAll.len a, List.length_map]⟩
theorem wayD {v : V} {x : Way} (h : Dp K H v (eW x)) : ∃ t u, v = .ref t ∧ SqT K H t [.int (x.1 : Int), .int (x.2.1 : Int), u] ∧ Dp K H u (eT x.2.2) := by
  obtain ⟨t, xs, rfl, q, a⟩ := tupD h
  obtain ⟨x, xs1, rfl, d1, a⟩ := consD a
  obtain ⟨y, xs2, rfl, d2, a⟩ := consD a
  obtain ⟨z, xs3, rfl, d3, a⟩ := consD a
  cases nilD a
  rw [intD d1, intD d2] at q
  exact ⟨t, z, rfl, q, d3⟩
theorem lettD {v : V} {x : Nat × Task} (h : Dp K H v (eL x)) : ∃ t u, v = .ref t ∧ SqT K H t [.int (x.1 : Int), u] ∧ Dp K H u (eK x.2) := by
  obtain ⟨t, xs, rfl, q, a⟩ := tupD h
  obtain ⟨x, xs1, rfl, d1, a⟩ := consD a
  obtain ⟨z, xs3, rfl, d3, a⟩ := consD a
  cases nilD a
  rw [intD d1] at q
  exact ⟨t, z, rfl, q, d3⟩
theorem standD {v : V} {s : PS} (h : Dp K H v (eS s)) : ∃ t b ws, v = .ref t ∧ SqT K H t [b, ws] ∧ Dp K H b (eB s.1) ∧ Dp K H ws (eWs s.2) := by
  obtain ⟨t, xs, rfl, q, a⟩ := tupD h
  obtain ⟨b, xs1, rfl, d1, a⟩ := consD a
  obtain ⟨z, xs3, rfl, d3, a⟩ := consD a
  cases nilD a
  exact ⟨t, b, z, rfl, q, d1, d3⟩
/-- an instance of Works -/
def IsWorks (K : PySem.W.Frag) (CW : Addr) (H : Hp) (a : Addr) (m : Nat) (R : Rules) : Prop := ∃ dx r, H a = some (.ins CW dx [("many", .int (m : Int)), ("rules", r)]) ∧ Dp K H r (eR R)
theorem IsWorks.same {CW a : Addr} {m : Nat} {R : Rules} (h : IsWorks K CW H a m R) (e : Same H H1) : IsWorks K CW H1 a m R := by
  obtain ⟨dx, r, h1, h2⟩ := h
  exact ⟨dx, r, e _ _ h1, Dp.same e _ _ h2⟩

/-! data that == takes -/
def shp (n : Nat) (d : PyData) : Prop := d.canLay0 = true ∧ d.depth ≤ n
theorem shp_shaped {n : Nat} {d : PyData} (h : shp n d) (hn : n ≤ 64) : SeqAt.shaped d = true := by
  unfold SeqAt.shaped
  rw [h.1, decide_eq_true (by have := h.2; omega)]; rfl
theorem shp_nil {n : Nat} : shp (n + 1) (.tuple []) := ⟨by simp [PyData.canLay0, PyData.canLayAll0], by simp [PyData.depth, PyData.depthAll]⟩
theorem shp_cons {n : Nat} {d : PyData} {ds : List PyData} (h : shp n d) (h2 : shp (n + 1) (.tuple ds)) : shp (n + 1) (.tuple (d :: ds)) := by
  obtain ⟨a1, a2⟩ := h
  obtain ⟨b1, b2⟩ := h2
  refine ⟨?_, ?_⟩
  · simp only [PyData.canLay0, PyData.canLayAll0] at *
    rw [a1, b1]; rfl
  · simp only [PyData.depth, PyData.depthAll] at *
    omega
theorem shp_map {n : Nat} {α : Type} (f : α → PyData) (h : ∀ a, shp n (f a)) : ∀ l : List α, shp (n + 1) (.tuple (l.map f))
  | [] => shp_nil
  | a :: l => shp_cons (h a) (shp_map f h l)
theorem shp_I {n : Nat} (i : Int) : shp n (.int i) := ⟨rfl, Nat.zero_le _⟩
theorem shp_str {n : Nat} (x : Str) (h : (PyData.str x).canLay0 = true) : shp n (.str x) := ⟨h, Nat.zero_le _⟩
theorem shp_non {n : Nat} : shp n .none := ⟨rfl, Nat.zero_le _⟩
theorem shp_K (e : Nat × Nat) : shp 1 (eK e) := shp_cons (shp_I _) (shp_cons (shp_I _) shp_nil)
theorem shp_T (ts : List (Nat × Nat)) : shp 2 (eT ts) := shp_map _ shp_K ts
theorem shp_R (R : Rules) : shp 3 (eR R) := shp_map _ shp_T R
theorem shp_B (b : List (List Task)) : shp 3 (eB b) := shp_map _ shp_T b
theorem shp_W (x : Way) : shp 3 (eW x) := shp_cons (shp_I _) (shp_cons (shp_I _) (shp_cons (shp_T _) shp_nil))
theorem shp_Ws (ws : List Way) : shp 4 (eWs ws) := shp_map _ shp_W ws
theorem shp_mono {n m : Nat} {d : PyData} (h : shp n d) (hm : n ≤ m) : shp m d := ⟨h.1, Nat.le_trans h.2 hm⟩
theorem shp_S (s : PS) : shp 5 (eS s) := shp_cons (shp_mono (shp_B _) (by decide)) (shp_cons (shp_Ws _) shp_nil)
theorem shp_E (e : Ev) : shp 1 (eE e) := by
  cases e with
  | doo h => exact shp_cons (shp_str _ (by decide +kernel)) (shp_cons (shp_I _) shp_nil)
  | hear h s => exact shp_cons (shp_str _ (by decide +kernel)) (shp_cons (shp_I _) (shp_cons (shp_I _) shp_nil))
  | say h x => exact shp_cons (shp_str _ (by decide +kernel)) (shp_cons (shp_I _) (shp_cons (shp_str _ (by revert x; decide +kernel)) shp_nil))
theorem shp_Es (es : List Ev) : shp 2 (eEs es) := shp_map _ shp_E es
theorem eqv_same {n : Nat} {d : PyData} (h : shp n d) : PyData.eqv d d = true := SeqAt.eqv_refl d h.1
end
end Kq
namespace Kq
open PySem PySem.Spec PyProof.Rows
open L2 hiding CX0 E0 pass0 Fun fun_mk Fun.ok Fun.binds defArgs defBody defScope
open C8
/-! the plain functions: what the program computes -/
def okRules (m : Nat) (R : Rules) : Prop := 1 ≤ m ∧ m ≤ 6 ∧ 1 ≤ R.length ∧ R.length ≤ 3 ∧ ∀ r ∈ R, r.length ≤ 3 ∧ ∀ p ∈ r, p.1 < m ∧ p.2 < R.length
def okTask (R : Rules) (t : Task) : Prop := t.1 < R.length ∧ t.2 ≤ 12
def okEv (m : Nat) : Ev → Prop
  | .doo h => h < m
  | .hear h s => h < m ∧ s < m
  | .say h _ => h < m
/-- the letters of who does a task -/
def sentL (m : Nat) (R : Rules) (h : Nat) (t : Task) : List (Nat × Task) := if t.2 = 0 then [] else ((R[t.1]?).getD []).map fun p => ((h + p.1) % m, (p.2, t.2 - 1))
def onWay (ws : List Way) (e : Nat × Nat) : List Task := ((ws.filter fun w => decide ((w.1, w.2.1) = e)).map fun w => w.2.2).headD []
def sortW (ws : List Way) : List Way := ws.mergeSort (PySem.W.dataLe false eW)
def withWay (ws : List Way) (e : Nat × Nat) (ts : List Task) : List Way := sortW ((ws.filter fun w => !decide ((w.1, w.2.1) = e)) ++ if ts = [] then [] else [(e.1, e.2, ts)])
def sendAll (h : Nat) (ls : List (Nat × Task)) (ws : List Way) : List Way := ls.foldl (fun ws l => withWay ws (h, l.1) (onWay ws (h, l.1) ++ [l.2])) ws
def afterDo (m : Nat) (R : Rules) (s : PS) (h : Nat) : Option PS := match s.1[h]? with
  | some (t :: r) => some (s.1.set h r, sendAll h (sentL m R h t) s.2)
  | _ => none
def afterHear (s : PS) (h f : Nat) : Option PS := match onWay s.2 (f, h) with
  | t :: r => some (s.1.set h (((s.1[h]?).getD []) ++ [t]), withWay s.2 (f, h) r)
  | [] => none
def afterEv (m : Nat) (R : Rules) (s : PS) : Ev → Option PS
  | .doo h => afterDo m R s h
  | .hear h f => afterHear s h f
  | .say _ _ => some s
def allQuiet (s : PS) : Bool := s.1.all (·.isEmpty) && s.2.isEmpty
def begunS (m : Nat) (g : List Task) : PS := (g :: List.replicate (m - 1) [], [])
/-- the standings from s on: ahead of each event that can be done, and behind the last -/
def standings (m : Nat) (R : Rules) (s : PS) : List Ev → List PS
  | [] => [s]
  | e :: es => match afterEv m R s e with
    | none => [s]
    | some s' => s :: standings m R s' es
/-- all sizes at most n -/
def Fit (n : Nat) (s : PS) : Prop := (∀ b ∈ s.1, b.length ≤ n) ∧ s.2.length ≤ n ∧ ∀ w ∈ s.2, w.2.2.length ≤ n
def FitW (n : Nat) (ws : List Way) : Prop := ws.length ≤ n ∧ ∀ w ∈ ws, w.2.2.length ≤ n
theorem onWay_len {n : Nat} {ws : List Way} (h : FitW n ws) (e : Nat × Nat) : (onWay ws e).length ≤ n := by
  unfold onWay
  cases q : (ws.filter fun w => decide ((w.1, w.2.1) = e)) with
  | nil => exact Nat.zero_le _
  | cons a r =>
    have : a ∈ ws := (List.mem_filter.mp (q ▸ List.mem_cons_self : a ∈ ws.filter _)).1
    exact h.2 a this
theorem withWay_fit {n k : Nat} {ws : List Way} {e : Nat × Nat} {ts : List Task} (h : FitW n ws) (hk : n + 1 ≤ k) (ht : ts.length ≤ k) : FitW k (withWay ws e ts) := by
  unfold withWay sortW
  refine ⟨?_, fun w hw => ?_⟩
  · rw [List.length_mergeSort, List.length_append]
    have h1 := List.length_filter_le (fun w : Way => !decide ((w.1, w.2.1) = e)) ws
    have h2 : (if ts = [] then [] else [((e.1, e.2, ts) : Way)]).length ≤ 1 := by split <;> simp
    have := h.1
    omega
  · rw [List.mem_mergeSort, List.mem_append] at hw
    rcases hw with hw | hw
    · have := h.2 w (List.mem_filter.mp hw).1
      omega
    · split at hw
      · cases hw
      · rw [List.mem_singleton] at hw
        subst hw
        exact ht
end Kq
namespace Kq
open PySem PySem.Spec PyProof.Rows
open L2 hiding CX0 E0 pass0 Fun fun_mk Fun.ok Fun.binds defArgs defBody defScope
open C8
/-! works.py: rules, works, tasks -/
section
variable {P : Program} {w : World} {K : PySem.W.Frag} {mg : Str → Option Value} {base : Heap} {CW CR : Addr}
abbrev N_p_is_rule : List Str := ["many", "kinds", "thing", "item", "step", "kind"]
theorem sc_p_is_rule : FnScope N_p_is_rule ["many", "kinds", "thing"] (fnScope s_p_is_rule) := fnScope_by (by decide +kernel)
abbrev N_Works_init : List Str := ["self", "many", "rules", "number", "rule"]
theorem sc_Works_init : FnScope N_Works_init ["self", "many", "rules"] (fnScope s_Works_init) := fnScope_by (by decide +kernel)
abbrev N_Works_eq : List Str := ["self", "other"]
theorem sc_Works_eq : FnScope N_Works_eq ["self", "other"] (fnScope s_Works_eq) := fnScope_by (by decide +kernel)
abbrev N_p_is_right_task : List Str := ["works", "thing"]
theorem sc_p_is_right_task : FnScope N_p_is_right_task ["works", "thing"] (fnScope s_p_is_right_task) := fnScope_by (by decide +kernel)
theorem wit_yes {i a b : Int} (h1 : a ≤ i) (h2 : i ≤ b) : wit i a b = true := by unfold wit; rw [decide_eq_true h1, decide_eq_true h2]; rfl
theorem all_true {α : Type} {t : α → Bool} {l : List α} (h : ∀ a ∈ l, t a = true) : (l.map t).all id = true := by
  rw [List.all_eq_true]
  intro b hb
  obtain ⟨a, ha, rfl⟩ := List.mem_map.mp hb
  exact h a ha
theorem iteF' {c : Bool} {A B : Prop} (hc : c = false) (h : B) : if c = true then A else B := by rw [hc]; exact iteF h
theorem iteT' {c : Bool} {A B : Prop} (hc : c = true) (h : A) : if c = true then A else B := by rw [hc]; exact iteT h
def spRule (K : PySem.W.Frag) : Sp := fun vs H Q _ => ∃ (m k : Nat) (v : V) (r : List (Nat × Nat)), vs = [.int (m : Int), .int (k : Int), v] ∧ Dp K H v (eT r) ∧ r.length ≤ 4 ∧ (∀ p ∈ r, p.1 < m ∧ p.2 < k) ∧ ∀ H', Same H H' → Q (.bl true) H'
theorem c_p_is_rule (T : Tx K mg CW CR) : Cal P w K mg base 4 "is_rule" (spRule K) [] := by
  have c_p_is_sized := c_p_is_sized (P := P) (w := w) (base := base) T
  have c_p_is_pair := c_p_is_pair (P := P) (w := w) (base := base) T
  have c_p_is_below := c_p_is_below (P := P) (w := w) (base := base) T
  obtain ⟨f, fd, F, df⟩ := T.d_p_is_rule.ex
  refine cal0 F (F.fn.binds df b_p_is_rule) .nil sc_p_is_rule (fun vs H Q E h => ?_) (fun cdv A outer s H vs Q E hr h => ?_)
  · obtain ⟨m, k, v, r, rfl, _⟩ := h; rfl
  · obtain ⟨m, k, v, r, rfl, hv, h4, hr4, q⟩ := h
    obtain ⟨a, xs, rfl, hs, hx, hl⟩ := tasksD hv
    have z := sizeLine_eq
    refine ⟨_, (pss_cons (ps_if (PW.pt (pw_or (pt_not (pt_val (pe_c c_p_is_sized hr (by decide) (by rfl) (pa_cons (pv 2) (pa_cons pe_int (pa_cons (pe_gc (by rfl) T.g_MOST_SENT) pa_nil)))))) (pw_or1 (pt_not (pt_val (pe_callB (kall K) (by rfl) T.z_all (by decide +kernel) (pa_cons (pe_lc (own := [("item", 3)]) (by rfl) sc_p_is_rule.nd (kiTup K (pv 2)) (blkOk_by (N := N_p_is_rule) (sc := fnScope s_p_is_rule) (by decide +kernel)) (fun _ _ _ _ _ => (pgn 3 sc_p_is_rule.nd)) (fun _ _ _ _ _ => pts_nil) (fun _ _ _ _ _ => (pe_c c_p_is_pair hr (by decide) (by rfl) (pa_cons (pv 3) pa_nil)))) pa_nil)))))))
        (pss_one (ps_ret pe_bl)) pss_nil)
      (pss_one (ps_ret (pe_callB (kall K) (by rfl) T.z_all (by decide +kernel) (pa_cons (pe_lc (own := [("step", 4), ("kind", 5)]) (by rfl) sc_p_is_rule.nd (kiTup K (pv 2)) (blkOk_by (N := N_p_is_rule) (sc := fnScope s_p_is_rule) (by decide +kernel)) (fun _ _ _ _ _ => (pgt K 2 (pgs_cons (pgn 4 sc_p_is_rule.nd) (pgs_cons (pgn 5 sc_p_is_rule.nd) pgs_nil)))) (fun _ _ _ _ _ => pts_nil) (fun _ _ _ _ _ => (pe_and (pe_c c_p_is_below hr (by decide) (by rfl) (pa_cons (pv 4) (pa_cons (pv 0) pa_nil))) (pe_one (pe_c c_p_is_below hr (by decide) (by rfl) (pa_cons (pv 5) (pa_cons (pv 1) pa_nil))))))) pa_nil))))), ?_⟩
    refine ⟨.ref a, rfl, a, xs, 0, 4, rfl, hs, true, congrArg V.bl (wit_yes (by omega) (by omega)), iteF ?_⟩
    refine ⟨.ref a, rfl, a, rfl, ⟨xs, hs⟩, fun D nD => lc_tup (xs := xs) (PvM K H D r every fun _ => .bool true) (PvM.zero nD) (fun i H' _ h => SqT.same hs h.same) (fun i x H' hi hP => ?_) (fun H' hP => ?_)⟩
    · obtain ⟨p, hp, dp⟩ := item_of hx hi
      obtain ⟨t, rfl, ht⟩ := pairD (Dp.same hP.same _ _ dp)
      refine ⟨rfl, yesT ⟨.ref t, rfl, t, _, rfl, ht, hP.step nD (by omega) hp rfl (fun _ => rfl) (Same.refl _) (show Dp K H' (.bl true) _ from .bl true)⟩⟩
    · obtain ⟨s1, acc, hD, hacc⟩ := hP.done (by omega)
      rw [filter_every] at hacc
      refine ⟨D, (r.map fun _ => true), rfl, .inl (.inl (by rw [hD, bools_of hacc])), _, rfl, iteF' (by rw [all_true fun _ _ => rfl]; rfl) ?_⟩
      refine ⟨.ref a, rfl, a, rfl, ⟨xs, SqT.same hs s1⟩, fun D2 nD2 => lc_tup (xs := xs) (PvM K H' D2 r every fun _ => .bool true) (PvM.zero nD2) (fun i H2 _ h => SqT.same hs (s1.trans h.same)) (fun i x H2 hi hP2 => ?_) (fun H2 hP2 => ?_)⟩
      · obtain ⟨p, hp, dp⟩ := item_of hx hi
        obtain ⟨t, rfl, ht⟩ := pairD (Dp.same (s1.trans hP2.same) _ _ dp)
        have hr5 := hr4 p (List.mem_of_getElem? hp)
        refine ⟨t, _, rfl, ht, rfl, _, _, rfl, _, _, rfl, rfl, rfl, yesT ?_⟩
        refine ⟨.int (p.1 : Int), rfl, .int (m : Int), rfl, _, _, rfl, true, congrArg V.bl (wit_yes (by omega) (by omega)), iteT ?_⟩
        refine ⟨.int (p.2 : Int), rfl, .int (k : Int), rfl, _, _, rfl, hP2.step nD2 (by omega) hp rfl (fun _ => rfl) (Same.refl _) ?_⟩
        rw [wit_yes (by omega) (by omega)]
        exact .bl true
      · obtain ⟨s2, acc2, hD2, hacc2⟩ := hP2.done (by omega)
        rw [filter_every] at hacc2
        refine ⟨D2, (r.map fun _ => true), rfl, .inl (.inl (by rw [hD2, bools_of hacc2])), ?_⟩
        rw [all_true fun _ _ => rfl]
        exact q H2 (s1.trans s2)

/-- all that was tracked is as it was, but a -/
def But (a : Addr) (H H' : Hp) : Prop := ∀ b o, b ≠ a → H b = some o → H' b = some o
/-- Works.__init__ -/
def spWInit (K : PySem.W.Frag) (CW : Addr) : Sp := fun vs H Q _ => ∃ (x dx : Addr) (m : Nat) (v : V) (R : Rules), vs = [.ref x, .int (m : Int), v] ∧ H x = some (.ins CW dx []) ∧ Dp K H v (eR R) ∧ okRules m R ∧
  ∀ H', But x H H' → H' x = some (.ins CW dx [("many", .int (m : Int)), ("rules", v)]) → Dp K H' v (eR R) → Q .non H'
theorem c_Works (T : Tx K mg CW CR) : Mak P w K mg base 5 "Works" CW (spWInit K CW) [] := by
  have c_p_is_within := c_p_is_within (P := P) (w := w) (base := base) T
  have c_p_is_sized := c_p_is_sized (P := P) (w := w) (base := base) T
  have c_p_is_rule := c_p_is_rule (P := P) (w := w) (base := base) T
  obtain ⟨f, fd, me, F, df⟩ := T.m_Works_init.ex
  refine mak0 (qual := "Works.__init__") ⟨T.c_Works.mks, me.at_, me.fn, T.c_Works.kc⟩ T.c_Works.mgC F (F.binds df b_Works_init) .nil sc_Works_init (fun vs H Q E h => ?_) (fun cdv A outer s H vs Q E hr h => ?_)
  · obtain ⟨x, dx, m, v, R, rfl, _⟩ := h; rfl
  · obtain ⟨x, dx, m, v, R, rfl, hx, hv, ok, q⟩ := h
    obtain ⟨a, xs, rfl, hs, hxs⟩ := tupD hv
    have hl : xs.length = R.length := by rw [DpAll.len hxs, List.length_map]
    obtain ⟨ok1, ok2, ok3, ok4, ok5⟩ := ok
    have z := sizeLine_eq
    refine ⟨_, (pss_cons (ps_if (pt_not (pt_val (pe_c c_p_is_within hr (by decide) (by rfl) (pa_cons (pv 1) (pa_cons pe_int (pa_cons (pe_gc (by rfl) T.g_MOST_HOUSES) pa_nil))))))
        (pss_one ps_never) pss_nil)
      (pss_cons (ps_if (pt_not (pt_val (pe_c c_p_is_sized hr (by decide) (by rfl) (pa_cons (pv 2) (pa_cons pe_int (pa_cons (pe_gc (by rfl) T.g_MOST_KINDS) pa_nil))))))
        (pss_one ps_never) pss_nil)
      (pss_cons (ps_for PassesOwn.never rfl (pi_enumT (by rfl) T.z_enumerate (pa_cons (pv 2) pa_nil)) (pgt K 2 (pgs_cons (pgn 3 sc_Works_init.nd) (pgs_cons (pgn 4 sc_Works_init.nd) pgs_nil)))
        (pss_one (ps_if (pt_not (pt_val (pe_c c_p_is_rule hr (by decide) (by rfl) (pa_cons (pv 1) (pa_cons (pe_callB (klen K) (by rfl) T.z_len (by decide +kernel) (pa_cons (pv 2) pa_nil)) (pa_cons (pv 4) pa_nil))))))
          (pss_one ps_never) pss_nil)))
      (pss_cons (ps_fld (pv 0) (pv 1) rfl)
      (pss_one (ps_fld (pv 0) (pv 2) rfl)))))), ?_⟩
    refine ⟨.int (m : Int), rfl, _, _, _, rfl, true, congrArg V.bl (wit_yes (by omega) (by omega)), iteF ?_⟩
    refine ⟨.ref a, rfl, a, xs, 1, 6, rfl, hs, true, congrArg V.bl (wit_yes (by omega) (by omega)), iteF ?_⟩
    refine ⟨.ref a, rfl, a, xs, rfl, hs, for_enumT (xs := xs) (fun i σ H' => ∃ y3 y4, σ = [some (.ref x), some (.int (m : Int)), some (.ref a), y3, y4] ∧ Same H H') ⟨none, none, rfl, Same.refl _⟩
      (fun i σ H' _ h => ?_) (fun i v σ H' t hi hP nT => ?_) (fun σ H' hP => ?_)⟩
    · obtain ⟨_, _, _, e⟩ := h
      exact SqT.same hs e
    · obtain ⟨y3, y4, rfl, e⟩ := hP
      obtain ⟨r, hr1, dr⟩ := item_of hxs hi
      have e2 := same_upd (o := .tup [.int (i : Nat), v]) nT
      have okr := ok5 r (List.mem_of_getElem? hr1)
      refine ⟨t, _, rfl, .inl (.inl upd_same), rfl, _, _, rfl, _, _, rfl, rfl, ?_⟩
      refine ⟨.int (m : Int), rfl, .ref a, rfl, a, xs, rfl, .inr (SqT.same hs (e.trans e2)), v, rfl, m, R.length, v, r, (by rw [hl]; rfl), Dp.same (e.trans e2) _ _ dr, by omega, okr.2, fun H3 e3 => ?_⟩
      refine ⟨true, rfl, iteF ?_⟩
      exact ⟨some (.int (i : Nat)), some v, rfl, e.trans (e2.trans e3)⟩
    · obtain ⟨y3, y4, rfl, e⟩ := hP
      refine ⟨.int (m : Int), rfl, .ref x, rfl, x, CW, dx, _, rfl, e _ _ hx, T.c_Works.ic.cl, T.n_many, by decide, ?_⟩
      refine ⟨.ref a, rfl, .ref x, rfl, x, CW, dx, _, rfl, upd_same, T.c_Works.ic.cl, T.n_rules, (by show 1 < 1000; decide), ?_⟩
      have hxt : ∀ (H1 : Hp) (C dx : Addr) (fs gs : List (Str × V)), H1 x = some (.ins C dx fs) → KT K H1 (upd H1 x (.ins C dx gs)) := fun H1 C dx fs gs h1 b zs q => by
        rcases q with (q | ⟨o, q⟩) | q
        · exact .inl (.inl (by rw [upd_ne (ne_of q h1 (fun z => by cases z))]; exact q))
        · exact .inl (.inr ⟨o, by rw [upd_ne (ne_of q h1 (fun z => by cases z))]; exact q⟩)
        · exact .inr q
      refine q _ (fun b o hb q => ?_) ?_ ?_
      · rw [upd_ne hb, upd_ne hb]; exact e _ _ q
      · rw [upd_same]; rfl
      · exact Dp.kt (hxt _ _ _ _ _ upd_same) _ _ (flat_R R) (Dp.kt (hxt _ _ _ _ _ (e _ _ hx)) _ _ (flat_R R) (Dp.same e _ _ hv))
/-- Works.__eq__ of two that are made of the same -/
def spWEq (K : PySem.W.Frag) (CW : Addr) : Sp := fun vs H Q _ => ∃ (a b : Addr) (m : Nat) (R : Rules), vs = [.ref a, .ref b] ∧ IsWorks K CW H a m R ∧ IsWorks K CW H b m R ∧ ∀ H', Same H H' → Q (.bl true) H'
theorem tyI {mg : Str → Option Value} {x : Str} {H : Hp} {a C dx : Addr} {fs : List (Str × V)} (c : KlsAt K mg x C) (h : H a = some (.ins C dx fs)) : TyX K H (.ref a) (.ref C) :=
  .base (.ins h c.ic.cl c.ic.ha c.ic.hn c.ic.htk c.ic.hm)
theorem c_Works_eq (T : Tx K mg CW CR) : Met P w K mg base 1 CW "__eq__" (spWEq K CW) [] := by
  obtain ⟨f, fd, me, F, df⟩ := T.m_Works_eq.ex
  refine met0 (qual := "Works.__eq__") T.c_Works.ic.cl me F (F.binds df b_Works_eq) sc_Works_eq (fun vs H Q E h => ?_) (fun cdv A outer s H vs Q E hr h => ?_)
  · obtain ⟨a, b, m, R, rfl, _⟩ := h; rfl
  · obtain ⟨a, b, m, R, rfl, ha, hb, q⟩ := h
    obtain ⟨da, ra, ha1, ha2⟩ := ha
    obtain ⟨db, rb, hb1, hb2⟩ := hb
    refine ⟨_, (pss_one (ps_ret (pe_and (pe_callB (kisi K) (by rfl) T.z_isinstance (by decide +kernel) (pa_cons (pv 1) (pa_cons (pe_gc (by rfl) ⟨_, T.c_Works.mgC, show L2.RelV (.ref CW) _ from rfl⟩) pa_nil))) (pe_one (pe_cmpR (keqD K hr) (pe_tup (pa_cons (kfld K (pv 0)) (pa_cons (kfld K (pv 0)) pa_nil))) (pe_tup (pa_cons (kfld K (pv 1)) (pa_cons (kfld K (pv 1)) pa_nil))) (nomark _)))))), ?_⟩
    refine ⟨.ref b, rfl, _, _, _, _, true, rfl, .own CW, tyI T.c_Works hb1, T.c_Works.ic.me, true, rfl, iteT ?_⟩
    refine ⟨.ref a, rfl, a, CW, da, _, _, rfl, ha1, T.c_Works.ic.cl, T.n_many, rfl, .ref a, rfl, a, CW, da, _, _, rfl, ha1, T.c_Works.ic.cl, T.n_rules, rfl, (by show 2 ≤ sizeLine; decide), fun p np => ?_⟩
    have e1 := same_upd (o := .tup [.int (m : Int), ra]) np
    refine ⟨.ref b, rfl, b, CW, db, _, _, rfl, e1 _ _ hb1, T.c_Works.ic.cl, T.n_many, rfl, .ref b, rfl, b, CW, db, _, _, rfl, e1 _ _ hb1, T.c_Works.ic.cl, T.n_rules, rfl, (by show 2 ≤ sizeLine; decide), fun p2 np2 => ?_⟩
    have e2 := same_upd (o := .tup [.int (m : Int), rb]) np2
    have sh : shp 4 (.tuple [.int (m : Int), eR R]) := shp_cons (shp_I _) (shp_cons (shp_R R) shp_nil)
    refine ⟨_, _, Dp.same e2 _ _ (Dp.new np (.cons (.int _) (.cons ha2 .nil))), Dp.new np2 (.cons (.int _) (.cons (Dp.same e1 _ _ hb2) .nil)), shp_shaped sh (by decide), shp_shaped sh (by decide), ?_⟩
    rw [eqv_same sh]
    exact q _ (e1.trans e2)
/-- is_right_task of a task -/
def spTask (K : PySem.W.Frag) (CW : Addr) : Sp := fun vs H Q _ => ∃ (a : Addr) (m : Nat) (R : Rules) (v : V) (t : Task), vs = [.ref a, v] ∧ IsWorks K CW H a m R ∧ Dp K H v (eK t) ∧ okTask R t ∧ Q (.bl true) H
theorem c_p_is_right_task (T : Tx K mg CW CR) : Cal P w K mg base 4 "is_right_task" (spTask K CW) [] := by
  have c_p_is_within := c_p_is_within (P := P) (w := w) (base := base) T
  have c_p_is_below := c_p_is_below (P := P) (w := w) (base := base) T
  have c_p_is_pair := c_p_is_pair (P := P) (w := w) (base := base) T
  obtain ⟨f, fd, F, df⟩ := T.d_p_is_right_task.ex
  refine cal0 F (F.fn.binds df b_p_is_right_task) .nil sc_p_is_right_task (fun vs H Q E h => ?_) (fun cdv A outer s H vs Q E hr h => ?_)
  · obtain ⟨a, m, R, v, t, rfl, _⟩ := h; rfl
  · obtain ⟨a, m, R, v, t, rfl, ha, hv, ok, q⟩ := h
    obtain ⟨da, ra, ha1, ha2⟩ := ha
    obtain ⟨b, rfl, hb⟩ := pairD hv
    obtain ⟨c, xs, rfl, hc, hxs⟩ := tupD ha2
    have hl : xs.length = R.length := by rw [DpAll.len hxs, List.length_map]
    obtain ⟨o1, o2⟩ := ok
    refine ⟨_, (pss_one (ps_ret (pe_and (pe_c c_p_is_pair hr (by decide) (by rfl) (pa_cons (pv 1) pa_nil)) (pe_and (pe_c c_p_is_below hr (by decide) (by rfl) (pa_cons (pe_ix (kixT K) (pv 1) pe_int (fun _ _ => rfl)) (pa_cons (pe_callB (klen K) (by rfl) T.z_len (by decide +kernel) (pa_cons (kfld K (pv 0)) pa_nil)) pa_nil))) (pe_one (pe_c c_p_is_within hr (by decide) (by rfl) (pa_cons (pe_ix (kixT K) (pv 1) pe_int (fun _ _ => rfl)) (pa_cons pe_int (pa_cons (pe_gc (by rfl) T.g_MOST_FUEL) pa_nil))))))))), ?_⟩
    refine ⟨.ref b, rfl, b, _, rfl, hb, true, rfl, iteT ?_⟩
    refine ⟨.ref b, rfl, b, _, 0, .int (t.1 : Int), rfl, rfl, hb, rfl, .ref a, rfl, a, CW, da, _, _, rfl, ha1, T.c_Works.ic.cl, T.n_rules, rfl, c, xs, rfl, .inr hc, _, _, rfl, true, congrArg V.bl (wit_yes (by omega) (by omega)), iteT ?_⟩
    refine ⟨.ref b, rfl, b, _, 1, .int (t.2 : Int), rfl, rfl, hb, rfl, _, _, _, rfl, ?_⟩
    rw [wit_yes (by omega) (by omega)]
    exact q
end
end Kq
namespace Kq
open PySem PySem.Spec PyProof.Rows
open L2 hiding CX0 E0 pass0 Fun fun_mk Fun.ok Fun.binds defArgs defBody defScope
open C8
/-! works.py: letters, tasks given, the beginning -/
section
variable {P : Program} {w : World} {K : PySem.W.Frag} {mg : Str → Option Value} {base : Heap} {CW CR : Addr}
abbrev N_p_letters_of : List Str := ["works", "house", "task", "kind", "fuel", "step", "later"]
theorem sc_p_letters_of : FnScope N_p_letters_of ["works", "house", "task"] (fnScope s_p_letters_of) := fnScope_by (by decide +kernel)
abbrev N_p_are_tasks : List Str := ["works", "thing", "task"]
theorem sc_p_are_tasks : FnScope N_p_are_tasks ["works", "thing"] (fnScope s_p_are_tasks) := fnScope_by (by decide +kernel)
abbrev N_p_check_given : List Str := ["works", "thing"]
theorem sc_p_check_given : FnScope N_p_check_given ["works", "thing"] (fnScope s_p_check_given) := fnScope_by (by decide +kernel)
abbrev N_p_begun : List Str := ["works", "given"]
theorem sc_p_begun : FnScope N_p_begun ["works", "given"] (fnScope s_p_begun) := fnScope_by (by decide +kernel)
theorem two_le : ([1, 2] : List Nat).length ≤ sizeLine := by decide
theorem zl0 : ([] : List V).length ≤ sizeLine := Nat.zero_le _
theorem zl1 {a : V} : [a].length ≤ sizeLine := by show 1 ≤ sizeLine; decide
theorem zl2 {a b : V} : [a, b].length ≤ sizeLine := by show 2 ≤ sizeLine; decide
theorem zl3 {a b c : V} : [a, b, c].length ≤ sizeLine := by show 3 ≤ sizeLine; decide
theorem modc (a b m : Nat) : ((a : Int) + (b : Int)) % (m : Int) = (((a + b) % m : Nat) : Int) := by
  rw [Int.natCast_emod, Int.natCast_add]
def spLetters (K : PySem.W.Frag) (CW : Addr) : Sp := fun vs H Q _ => ∃ (a : Addr) (m : Nat) (R : Rules) (h : Nat) (v : V) (t : Task), vs = [.ref a, .int (h : Int), v] ∧ IsWorks K CW H a m R ∧ okRules m R ∧ Dp K H v (eK t) ∧ okTask R t ∧
  ∀ H' u, Same H H' → Dp K H' u (.tuple ((sentL m R h t).map eL)) → Q u H'
theorem c_p_letters_of (T : Tx K mg CW CR) : Cal P w K mg base 1 "letters_of" (spLetters K CW) [] := by
  obtain ⟨f, fd, F, df⟩ := T.d_p_letters_of.ex
  refine cal0 F (F.fn.binds df b_p_letters_of) .nil sc_p_letters_of (fun vs H Q E h => ?_) (fun cdv A outer s H vs Q E hr h => ?_)
  · obtain ⟨a, m, R, h, v, t, rfl, _⟩ := h; rfl
  · obtain ⟨a, m, R, h, v, t, rfl, ha, okR, hv, ok, q⟩ := h
    obtain ⟨da, ra, ha1, ha2⟩ := id ha
    obtain ⟨b, rfl, hb⟩ := pairD hv
    obtain ⟨c, xs, rfl, hc, hxs⟩ := tupD ha2
    obtain ⟨o1, o2⟩ := ok
    obtain ⟨ok1, ok2, ok3, ok4, ok5⟩ := okR
    have z := sizeLine_eq
    refine ⟨_, (pss_cons (ps_asg (pv 2) (pgt K 2 (pgs_cons (pgn 3 sc_p_letters_of.nd) (pgs_cons (pgn 4 sc_p_letters_of.nd) pgs_nil))))
      (pss_cons (ps_if (pt_cmpR op_eq (pv 4) pe_int (nomark _))
        (pss_one (ps_ret (pe_tup pa_nil))) pss_nil)
      (pss_one (ps_ret (pe_callTy (ktupO K) (by rfl) T.z_tuple (by decide +kernel) (pa_cons (pe_lc (own := [("step", 5), ("later", 6)]) (by rfl) sc_p_letters_of.nd (kiTup K (pe_ix (kixT K) (kfld K (pv 0)) (pv 3) (fun _ _ => rfl))) (blkOk_by (N := N_p_letters_of) (sc := fnScope s_p_letters_of) (by decide +kernel)) (fun _ _ _ _ _ => (pgt K 2 (pgs_cons (pgn 5 sc_p_letters_of.nd) (pgs_cons (pgn 6 sc_p_letters_of.nd) pgs_nil)))) (fun _ _ _ _ _ => pts_nil) (fun _ _ _ _ _ => (pe_tup (pa_cons (pe_op op_mod (pe_op op_add (pv 1) (pv 5)) (kfld K (pv 0))) (pa_cons (pe_tup (pa_cons (pv 6) (pa_cons (pe_op op_sub (pv 4) pe_int) pa_nil))) pa_nil))))) pa_nil)))))), ?_⟩
    refine ⟨.ref b, rfl, b, _, rfl, hb, rfl, _, _, rfl, _, _, rfl, rfl, ?_⟩
    refine ⟨.int (t.2 : Int), rfl, rfl, _, rfl, ite2 (fun e => ?_) (fun e => ?_)⟩
    · have e0 : t.2 = 0 := by
        have := V.int.inj (of_decide_eq_true e)
        omega
      refine ⟨zl0, fun p np => q _ _ (same_upd np) ?_⟩
      have : sentL m R h t = [] := by unfold sentL; rw [if_pos e0]
      rw [this]
      exact Dp.new np .nil
    · have e0 : t.2 ≠ 0 := fun z => e (by rw [z]; rfl)
      have hrr : R[t.1]? = some (R[t.1]'o1) := List.getElem?_eq_getElem o1
      obtain ⟨v, hv1, dv⟩ := item_at hxs hrr
      obtain ⟨y, ys, rfl, hy, hys, hyl⟩ := tasksD dv
      have okr := ok5 _ (List.mem_of_getElem? hrr)
      generalize hrdef : R[t.1]'o1 = r at hrr dv hys hyl okr
      have hsent : sentL m R h t = r.map fun p => ((h + p.1) % m, (p.2, t.2 - 1)) := by
        unfold sentL
        rw [if_neg e0, hrr]; rfl
      refine ⟨.ref a, rfl, a, CW, da, _, _, rfl, ha1, T.c_Works.ic.cl, T.n_rules, rfl, .int (t.1 : Int), rfl, c, xs, (t.1 : Int), .ref y, rfl, rfl, hc, atI_nat hv1, y, rfl, ⟨ys, hy⟩, fun D nD =>
        lc_tup (xs := ys) (PvM K H D r every fun p => eL ((h + p.1) % m, (p.2, t.2 - 1))) (PvM.zero nD) (fun i H' _ h => SqT.same hy h.same) (fun i x H' hi hP => ?_) (fun H' hP => ?_)⟩
      · obtain ⟨p, hp, dp⟩ := item_of hys hi
        obtain ⟨u, rfl, hu⟩ := pairD (Dp.same hP.same _ _ dp)
        refine ⟨u, _, rfl, hu, rfl, _, _, rfl, _, _, rfl, rfl, rfl, yesT ?_⟩
        refine ⟨.int (h : Int), rfl, .int (p.1 : Int), rfl, _, _, rfl, rfl, .ref a, rfl, a, CW, da, _, _, rfl, hP.same _ _ ha1, T.c_Works.ic.cl, T.n_many, rfl, _, _, rfl, rfl, (by omega), ?_⟩
        refine ⟨.int (p.2 : Int), rfl, .int (t.2 : Int), rfl, _, _, rfl, rfl, zl2, fun p1 np1 => ⟨zl2, fun p2 np2 => ?_⟩⟩
        have e1 := same_upd (o := .tup [.int (p.2 : Int), .int ((t.2 : Int) - 1)]) np1
        refine hP.step nD (by omega) hp rfl (fun _ => rfl) (e1.trans (same_upd np2)) (Dp.new np2 ?_)
        have c1 : (t.2 : Int) - 1 = ((t.2 - 1 : Nat) : Int) := by omega
        refine .cons (show Dp K _ (.int (((h : Int) + (p.1 : Int)) % (m : Int))) (.int (((h + p.1) % m : Nat) : Int)) from by rw [modc]; exact .int _) (.cons (pairMk (.inl (.inl ?_))) .nil)
        rw [upd_same]
        show some (HO.tup [.int (p.2 : Int), .int ((t.2 : Int) - 1)]) = some (HO.tup [.int (p.2 : Int), .int ((t.2 - 1 : Nat) : Int)])
        rw [c1]
      · obtain ⟨s1, acc, hD, hacc⟩ := hP.done (by omega)
        rw [filter_every] at hacc
        refine ⟨D, acc, rfl, .inl ⟨.inl (.inl hD), fun l nl => q _ _ (s1.trans (same_upd nl)) ?_⟩⟩
        rw [hsent, List.map_map]
        exact Dp.new nl hacc
/-- a tuple of tasks -/
def spTasks (K : PySem.W.Frag) (CW : Addr) : Sp := fun vs H Q _ => ∃ (a : Addr) (m : Nat) (R : Rules) (v : V) (g : List Task), vs = [.ref a, v] ∧ IsWorks K CW H a m R ∧ Dp K H v (eT g) ∧ (∀ t ∈ g, okTask R t) ∧ g.length ≤ 1000 ∧ ∀ H', Same H H' → Q (.bl true) H'
theorem c_p_are_tasks (T : Tx K mg CW CR) : Cal P w K mg base 5 "are_tasks" (spTasks K CW) [] := by
  have c_p_is_right_task := c_p_is_right_task (P := P) (w := w) (base := base) T
  obtain ⟨f, fd, F, df⟩ := T.d_p_are_tasks.ex
  refine cal0 F (F.fn.binds df b_p_are_tasks) .nil sc_p_are_tasks (fun vs H Q E h => ?_) (fun cdv A outer s H vs Q E hr h => ?_)
  · obtain ⟨a, m, R, v, g, rfl, _⟩ := h; rfl
  · obtain ⟨a, m, R, v, g, rfl, ha, hv, ok, hg, q⟩ := h
    obtain ⟨b, xs, rfl, hb, hxs, hl⟩ := tasksD hv
    have z := sizeLine_eq
    refine ⟨_, (pss_one (ps_ret (pe_and (pe_callB (kisi K) (by rfl) T.z_isinstance (by decide +kernel) (pa_cons (pv 1) (pa_cons (pe_bltn (by rfl) T.z_tuple (by decide +kernel) (show RelV (.ty "tuple") _ from rfl)) pa_nil))) (pe_one (pe_callB (kall K) (by rfl) T.z_all (by decide +kernel) (pa_cons (pe_lc (own := [("task", 2)]) (by rfl) sc_p_are_tasks.nd (kiTup K (pv 1)) (blkOk_by (N := N_p_are_tasks) (sc := fnScope s_p_are_tasks) (by decide +kernel)) (fun _ _ _ _ _ => (pgn 2 sc_p_are_tasks.nd)) (fun _ _ _ _ _ => pts_nil) (fun _ _ _ _ _ => (pe_c c_p_is_right_task hr (by decide) (by rfl) (pa_cons (pv 0) (pa_cons (pv 2) pa_nil))))) pa_nil)))))), ?_⟩
    refine ⟨.ref b, rfl, _, _, _, _, true, rfl, .ty "tuple", tyT hb, kit_ty (by decide +kernel), true, rfl, iteT ?_⟩
    refine ⟨.ref b, rfl, b, rfl, ⟨xs, hb⟩, fun D nD => lc_tup (xs := xs) (PvM K H D g every fun _ => .bool true) (PvM.zero nD) (fun i H' _ h => SqT.same hb h.same) (fun i x H' hi hP => ?_) (fun H' hP => ?_)⟩
    · obtain ⟨t, ht, dt⟩ := item_of hxs hi
      refine ⟨rfl, yesT ⟨.ref a, rfl, x, rfl, a, m, R, x, t, rfl, ha.same hP.same, Dp.same hP.same _ _ dt, ok t (List.mem_of_getElem? ht), hP.step nD (by omega) ht rfl (fun _ => rfl) (Same.refl _) (.bl true)⟩⟩
    · obtain ⟨s1, acc, hD, hacc⟩ := hP.done (by omega)
      rw [filter_every] at hacc
      refine ⟨D, (g.map fun _ => true), rfl, .inl (.inl (by rw [hD, bools_of hacc])), ?_⟩
      rw [all_true fun _ _ => rfl]
      exact q _ s1
def spCheckGiven (K : PySem.W.Frag) (CW : Addr) : Sp := fun vs H Q _ => ∃ (a : Addr) (m : Nat) (R : Rules) (v : V) (g : List Task), vs = [.ref a, v] ∧ IsWorks K CW H a m R ∧ Dp K H v (eT g) ∧ (∀ t ∈ g, okTask R t) ∧ g.length ≤ 20 ∧ ∀ H', Same H H' → Q .non H'
theorem c_p_check_given (T : Tx K mg CW CR) : Cal P w K mg base 6 "check_given" (spCheckGiven K CW) [] := by
  have c_p_are_tasks := c_p_are_tasks (P := P) (w := w) (base := base) T
  obtain ⟨f, fd, F, df⟩ := T.d_p_check_given.ex
  refine cal0 F (F.fn.binds df b_p_check_given) .nil sc_p_check_given (fun vs H Q E h => ?_) (fun cdv A outer s H vs Q E hr h => ?_)
  · obtain ⟨a, m, R, v, g, rfl, _⟩ := h; rfl
  · obtain ⟨a, m, R, v, g, rfl, ha, hv, ok, hg, q⟩ := h
    obtain ⟨b, xs, rfl, hb, hxs, hl⟩ := tasksD hv
    refine ⟨_, (pss_one (ps_if (PW.pt (pw_or (pt_not (pt_val (pe_c c_p_are_tasks hr (by decide) (by rfl) (pa_cons (pv 0) (pa_cons (pv 1) pa_nil))))) (pw_or1 (pt_cmpR op_gt (pe_callB (klen K) (by rfl) T.z_len (by decide +kernel) (pa_cons (pv 1) pa_nil)) (pe_gc (by rfl) T.g_MOST_GIVEN) (nomark _)))))
        (pss_one ps_never) pss_nil)), ?_⟩
    refine ⟨.ref a, rfl, .ref b, rfl, a, m, R, .ref b, g, rfl, ha, hv, ok, by omega, fun H1 e1 => ⟨true, rfl, iteF ?_⟩⟩
    refine ⟨.ref b, rfl, b, xs, rfl, .inr (SqT.same hb e1), _, _, rfl, rfl, false, congrArg V.bl (decide_eq_false (by omega)), iteF ?_⟩
    exact q _ e1
def spBegun (K : PySem.W.Frag) (CW : Addr) : Sp := fun vs H Q _ => ∃ (a : Addr) (m : Nat) (R : Rules) (v : V) (g : List Task), vs = [.ref a, v] ∧ IsWorks K CW H a m R ∧ 1 ≤ m ∧ m ≤ 6 ∧ Dp K H v (eT g) ∧ ∀ H' u, Same H H' → Dp K H' u (eS (begunS m g)) → Q u H'
theorem dp_rep {H : Hp} {v : V} {d : PyData} (h : Dp K H v d) : ∀ n : Nat, DpAll K H (List.replicate n v) (List.replicate n d)
  | 0 => .nil
  | n + 1 => .cons h (dp_rep h n)
theorem rep_flat {α : Type} (a : α) (n : Nat) : (List.replicate n [a]).flatten = List.replicate n a := by
  induction n with
  | zero => rfl
  | succ n ih => rw [List.replicate_succ, List.flatten_cons, ih]; rfl
theorem c_p_begun (T : Tx K mg CW CR) : Cal P w K mg base 1 "begun" (spBegun K CW) [] := by
  obtain ⟨f, fd, F, df⟩ := T.d_p_begun.ex
  refine cal0 F (F.fn.binds df b_p_begun) .nil sc_p_begun (fun vs H Q E h => ?_) (fun cdv A outer s H vs Q E hr h => ?_)
  · obtain ⟨a, m, R, v, g, rfl, _⟩ := h; rfl
  · obtain ⟨a, m, R, v, g, rfl, ha, h1, h6, hv, q⟩ := h
    obtain ⟨da, ra, ha1, ha2⟩ := id ha
    have z := sizeLine_eq
    refine ⟨_, (pss_one (ps_ret (pe_tup (pa_cons (pe_op (kcat K) (pe_tup (pa_cons (pv 1) pa_nil)) (pe_op (krep K) (pe_tup (pa_cons (pe_tup pa_nil) pa_nil)) (pe_op op_sub (kfld K (pv 0)) pe_int))) (pa_cons (pe_tup pa_nil) pa_nil))))), ?_⟩
    refine ⟨v, rfl, zl1, fun p1 np1 => ⟨zl0, fun p2 np2 => ⟨zl1, fun p3 np3 => ?_⟩⟩⟩
    have e1 := same_upd (o := .tup [v]) np1
    have e2 := same_upd (o := .tup []) np2
    have e3 := same_upd (o := .tup [.ref p2]) np3
    have e13 := e1.trans (e2.trans e3)
    refine ⟨.ref a, rfl, a, CW, da, _, _, rfl, e13 _ _ ha1, T.c_Works.ic.cl, T.n_many, rfl, _, _, rfl, rfl, p3, (m : Int) - 1, [.ref p2], rfl, rfl, .inl (.inl upd_same), by simp, by omega, by omega, by simp, fun H4 p4 e4 s4 => ?_⟩
    have em : ((m : Int) - 1).toNat = m - 1 := by omega
    rw [em, rep_flat] at s4
    refine catA_mk (SqT.same (.inl (.inl upd_same)) (e2.trans (e3.trans e4))) s4 (by simp only [List.length_cons, List.length_nil, List.length_replicate]; omega) fun H5 p5 e5 s5 => ?_
    refine ⟨zl0, fun p6 np6 => ⟨zl2, fun p7 np7 => ?_⟩⟩
    have e6 := same_upd (o := .tup []) np6
    have e7 := same_upd (o := .tup [.ref p5, .ref p6]) np7
    have dv : Dp K H5 v (eT g) := Dp.same (e13.trans (e4.trans e5)) _ _ hv
    have d2 : Dp K H5 (.ref p2) (eT []) := Dp.same (e3.trans (e4.trans e5)) _ _ (Dp.new np2 .nil)
    have d5 : Dp K H5 (.ref p5) (eB (g :: List.replicate (m - 1) [])) := .tup s5 (by
      rw [List.map_cons, List.map_replicate]
      exact .cons dv (dp_rep d2 (m - 1)))
    refine q _ _ (e13.trans (e4.trans (e5.trans (e6.trans e7)))) ?_
    exact Dp.new np7 (.cons (Dp.same e6 _ _ d5) (.cons (Dp.new np6 .nil) .nil))
end
end Kq
namespace Kq
open PySem PySem.Spec PyProof.Rows
open L2 hiding CX0 E0 pass0 Fun fun_mk Fun.ok Fun.binds defArgs defBody defScope
open C8
/-! works.py: ways, and the standings behind events -/
section
variable {P : Program} {w : World} {K : PySem.W.Frag} {mg : Str → Option Value} {base : Heap} {CW CR : Addr}
abbrev N_p_on_way : List Str := ["ways", "ends", "found", "sender", "to", "tasks"]
theorem sc_p_on_way : FnScope N_p_on_way ["ways", "ends"] (fnScope s_p_on_way) := fnScope_by (by decide +kernel)
abbrev N_p_with_way : List Str := ["ways", "ends", "tasks", "found", "way"]
theorem sc_p_with_way : FnScope N_p_with_way ["ways", "ends", "tasks"] (fnScope s_p_with_way) := fnScope_by (by decide +kernel)
abbrev N_p_after_do : List Str := ["works", "standing", "house", "bags", "ways", "to", "task", "ends"]
theorem sc_p_after_do : FnScope N_p_after_do ["works", "standing", "house"] (fnScope s_p_after_do) := fnScope_by (by decide +kernel)
abbrev N_p_after_hear : List Str := ["standing", "house", "sender", "bags", "ways", "ends", "tasks"]
theorem sc_p_after_hear : FnScope N_p_after_hear ["standing", "house", "sender"] (fnScope s_p_after_hear) := fnScope_by (by decide +kernel)
abbrev N_p_is_all_quiet : List Str := ["standing", "bag"]
theorem sc_p_is_all_quiet : FnScope N_p_is_all_quiet ["standing"] (fnScope s_p_is_all_quiet) := fnScope_by (by decide +kernel)
theorem eqv_K (a b : Nat × Nat) : PyData.eqv (eK a) (eK b) = decide (a = b) := by
  have h : PyData.eqv (eK a) (eK b) = (((a.1 : Int) == (b.1 : Int)) && (((a.2 : Int) == (b.2 : Int)) && true)) := by
    simp [eK, dI, PyData.eqv, PyData.eqvAll]
  rw [h, Bool.and_true]
  by_cases e : a = b
  · subst e; simp
  · rw [decide_eq_false e, Bool.and_eq_false_iff]
    by_cases e1 : a.1 = b.1
    · right
      have : a.2 ≠ b.2 := fun e2 => e (Prod.ext e1 e2)
      rw [beq_eq_false_iff_ne]; omega
    · left
      rw [beq_eq_false_iff_ne]; omega
theorem same_trans2 {H0 H1 H2 : Hp} (a : Same H0 H1) (b : Same H1 H2) : Same H0 H2 := a.trans b
def spOnWay (K : PySem.W.Frag) : Sp := fun vs H Q _ => ∃ (v e : V) (ws : List Way) (en : Nat × Nat), vs = [v, e] ∧ Dp K H v (eWs ws) ∧ Dp K H e (eK en) ∧ ws.length ≤ 1000 ∧ ∀ H' u, Same H H' → Dp K H' u (eT (onWay ws en)) → Q u H'
theorem c_p_on_way (T : Tx K mg CW CR) : Cal P w K mg base 1 "on_way" (spOnWay K) [] := by
  obtain ⟨f, fd, F, df⟩ := T.d_p_on_way.ex
  refine cal0 F (F.fn.binds df b_p_on_way) .nil sc_p_on_way (fun vs H Q E h => ?_) (fun cdv A outer s H vs Q E hr h => ?_)
  · obtain ⟨v, e, ws, en, rfl, _⟩ := h; rfl
  · obtain ⟨v, e, ws, en, rfl, hv, he, hl, q⟩ := h
    obtain ⟨a, xs, rfl, ha, hxs⟩ := tupD hv
    have hlx : xs.length = ws.length := by rw [DpAll.len hxs, List.length_map]
    have z := sizeLine_eq
    refine ⟨_, (pss_cons (ps_setLc (own := [("sender", 3), ("to", 4), ("tasks", 5)]) (i := 2) (by rfl) sc_p_on_way.nd rfl rfl (sw_true rfl rfl rfl (by decide +kernel)) (kiTup K (pv 0)) (blkOk_by (N := N_p_on_way) (sc := fnScope s_p_on_way) (by decide +kernel)) (fun _ _ _ _ _ => (pgt K 3 (pgs_cons (pgn 3 sc_p_on_way.nd) (pgs_cons (pgn 4 sc_p_on_way.nd) (pgs_cons (pgn 5 sc_p_on_way.nd) pgs_nil))))) (fun _ _ _ _ _ => (pts_one (pt_cmpR (keqD K hr) (pe_tup (pa_cons (pv 3) (pa_cons (pv 4) pa_nil))) (pv 1) (nomark _)))) (fun _ _ _ _ _ => (pv 5)))
      (pss_one (ps_ret (pe_ifExp (pt_cmpR op_gt (pe_callB (klen K) (by rfl) T.z_len (by decide +kernel) (pa_cons (pv 2) pa_nil)) pe_int (nomark _)) (pe_ix (kixL K) (pv 2) pe_int (fun _ _ => rfl)) (pe_tup pa_nil))))), ?_⟩
    refine ⟨.ref a, rfl, a, rfl, ⟨xs, ha⟩, fun D nD => lc_tup (xs := xs) (PvM K H D ws (fun x => decide ((x.1, x.2.1) = en)) fun x => eT x.2.2) (PvM.zero nD) (fun i H' _ h => SqT.same ha h.same) (fun i x H' hi hP => ?_) (fun H' hP => ?_)⟩
    · obtain ⟨y, hy, dy⟩ := item_of hxs hi
      obtain ⟨t, u, rfl, ht, du⟩ := wayD (Dp.same hP.same _ _ dy)
      refine ⟨t, _, rfl, ht, rfl, _, _, rfl, _, _, rfl, _, _, rfl, rfl, rfl, ?_⟩
      refine ⟨.int (y.1 : Int), rfl, .int (y.2.1 : Int), rfl, zl2, fun p np => ?_⟩
      have e1 := same_upd (o := .tup [.int (y.1 : Int), .int (y.2.1 : Int)]) np
      refine ⟨e, rfl, eK (y.1, y.2.1), eK en, pairMk (.inl (.inl upd_same)), Dp.same (hP.same.trans e1) _ _ he, shp_shaped (shp_K _) (by decide), shp_shaped (shp_K _) (by decide), _, rfl, ?_⟩
      rw [eqv_K]
      refine ite2 (fun c => ?_) (fun c => ?_)
      · exact ⟨u, rfl, hP.step nD (by omega) hy c (fun _ => flat_T _) e1 (Dp.same e1 _ _ du)⟩
      · exact hP.skip hy (Bool.eq_false_iff.mpr c) e1
    · obtain ⟨s1, acc, hD, hacc⟩ := hP.done (by omega)
      refine ⟨.ref D, rfl, D, acc, rfl, .inl (.inl (.inl hD)), _, _, rfl, rfl, _, rfl, ite2 (fun c => ?_) (fun c => ?_)⟩
      · have c' := of_decide_eq_true c
        cases hf : (ws.filter fun x => decide ((x.1, x.2.1) = en)) with
        | nil =>
          rw [hf] at hacc
          cases nilD hacc
          simp at c'
        | cons y r =>
          rw [hf] at hacc
          obtain ⟨x, xs', rfl, d1, _⟩ := consD hacc
          refine ⟨.ref D, rfl, D, x :: xs', 0, x, rfl, rfl, .inl (.inl hD), atI_nat (j := 0) rfl, q _ _ s1 ?_⟩
          have : onWay ws en = y.2.2 := by unfold onWay; rw [hf]; rfl
          rw [this]; exact d1
      · have c' := of_decide_eq_false (Bool.eq_false_iff.mpr c)
        refine ⟨zl0, fun p np => q _ _ (s1.trans (same_upd np)) ?_⟩
        have h0 : acc = [] := by
          cases acc with
          | nil => rfl
          | cons a b => simp only [List.length_cons] at c'; omega
        subst h0
        have : onWay ws en = [] := by
          unfold onWay
          have h1 := DpAll.len hacc
          rw [List.length_map] at h1
          have h2 : (ws.filter fun x => decide ((x.1, x.2.1) = en)) = [] := List.eq_nil_of_length_eq_zero (by rw [← h1]; rfl)
          rw [h2]; rfl
        rw [this]
        exact Dp.new np .nil
theorem alike_map {f : Nat × Nat → PyData} (h : ∀ a b, PySem.W.alike (f a) (f b) = true) : ∀ l m : List (Nat × Nat), PySem.W.alikeAll (l.map f) (m.map f) = true
  | [], _ => by simp [PySem.W.alikeAll]
  | _ :: _, [] => by simp [PySem.W.alikeAll]
  | a :: l, b :: m => by rw [List.map_cons, List.map_cons, PySem.W.alikeAll, h a b, alike_map h l m]; rfl
theorem alike_T (a b : List (Nat × Nat)) : PySem.W.alike (eT a) (eT b) = true := by
  unfold eT
  rw [PySem.W.alike]; exact alike_map alike_K a b
theorem alike_W (a b : Way) : PySem.W.alike (eW a) (eW b) = true := by
  have h := alike_T a.2.2 b.2.2
  simp only [eW, dI, PySem.W.alike, PySem.W.alikeAll, h, Bool.and_true]
theorem sort_W (ws : List Way) : (ws.map eW).mergeSort (PySem.W.dataLe false id) = (sortW ws).map eW :=
  (PySem.W.sort_maps (r := PySem.W.dataLe false eW) (s := PySem.W.dataLe false id) eW (fun _ _ _ _ => rfl)).symm
def spWithWay (K : PySem.W.Frag) : Sp := fun vs H Q _ => ∃ (v e t : V) (ws : List Way) (en : Nat × Nat) (ts : List Task), vs = [v, e, t] ∧ Dp K H v (eWs ws) ∧ Dp K H e (eK en) ∧ Dp K H t (eT ts) ∧ ws.length ≤ 1000 ∧ ∀ H' u, Same H H' → Dp K H' u (eWs (withWay ws en ts)) → Q u H'
theorem c_p_with_way (T : Tx K mg CW CR) : Cal P w K mg base 1 "with_way" (spWithWay K) [] := by
  obtain ⟨f, fd, F, df⟩ := T.d_p_with_way.ex
  refine cal0 F (F.fn.binds df b_p_with_way) .nil sc_p_with_way (fun vs H Q E h => ?_) (fun cdv A outer s H vs Q E hr h => ?_)
  · obtain ⟨v, e, t, ws, en, ts, rfl, _⟩ := h; rfl
  · obtain ⟨v, e, t, ws, en, ts, rfl, hv, he, ht, hl, q⟩ := h
    obtain ⟨a, xs, rfl, ha, hxs⟩ := tupD hv
    obtain ⟨ea, rfl, hea⟩ := pairD he
    obtain ⟨ta, txs, rfl, hta, htxs, htl⟩ := tasksD ht
    have hlx : xs.length = ws.length := by rw [DpAll.len hxs, List.length_map]
    have z := sizeLine_eq
    refine ⟨_, (pss_cons (ps_setLc (own := [("way", 4)]) (i := 3) (by rfl) sc_p_with_way.nd rfl rfl (sw_true rfl rfl rfl (by decide +kernel)) (kiTup K (pv 0)) (blkOk_by (N := N_p_with_way) (sc := fnScope s_p_with_way) (by decide +kernel)) (fun _ _ _ _ _ => (pgn 4 sc_p_with_way.nd)) (fun _ _ _ _ _ => (pts_one (pt_cmpR (kneD K hr) (pe_slice (kslT K) (pv 4) po_none (po_some pe_int)) (pv 1) (nomark _)))) (fun _ _ _ _ _ => (pv 4)))
      (pss_cut (ps_if (pt_cmpR op_gt (pe_callB (klen K) (by rfl) T.z_len (by decide +kernel) (pa_cons (pv 2) pa_nil)) pe_int (nomark _))
        (pss_one (ps_expr (pe_bm PySem.F.plainAttrs_list PySem.F.slot_list_append PySem.F.type_list_append mt_append (pv 3) (pa_cons (pe_op (kcat K) (pv 1) (pe_tup (pa_cons (pv 2) pa_nil))) pa_nil)))) pss_nil)
      (pss_one (ps_ret (pe_callTy (ktupO K) (by rfl) T.z_tuple (by decide +kernel) (pa_cons (pe_callB (ksortW K hr) (by rfl) T.z_sorted (by decide +kernel) (pa_cons (pv 3) pa_nil)) pa_nil)))))), ?_⟩
    refine ⟨.ref a, rfl, a, rfl, ⟨xs, ha⟩, fun D nD => lc_tup (xs := xs) (PvM K H D ws (fun x => !decide ((x.1, x.2.1) = en)) eW) (PvM.zero nD) (fun i H' _ h => SqT.same ha h.same) (fun i x H' hi hP => ?_) (fun H' hP => ?_)⟩
    · obtain ⟨y, hy, dy⟩ := item_of hxs hi
      have dy' := Dp.same hP.same _ _ dy
      obtain ⟨t, u, rfl, ht, du⟩ := wayD dy'
      refine ⟨rfl, .ref t, rfl, ?_⟩
      unfold tNoPart
      refine ⟨2, rfl, slA_mk ht fun H2 p e1 s1 => ?_⟩
      refine ⟨.ref ea, rfl, eK (y.1, y.2.1), eK en, pairMk s1, Dp.same (hP.same.trans e1) _ _ he, shp_shaped (shp_K _) (by decide), shp_shaped (shp_K _) (by decide), _, rfl, ?_⟩
      rw [eqv_K]
      refine ite2 (fun c => ?_) (fun c => ?_)
      · exact ⟨.ref t, rfl, hP.step nD (by omega) hy c (fun _ => flat_W _) e1 (Dp.same e1 _ _ dy')⟩
      · exact hP.skip hy (Bool.eq_false_iff.mpr c) e1
    · obtain ⟨s1, acc, hD, hacc⟩ := hP.done (by omega)
      have hla : acc.length ≤ ws.length := by
        have := DpAll.len hacc
        rw [List.length_map] at this
        have h2 := List.length_filter_le (fun x : Way => !decide ((x.1, x.2.1) = en)) ws
        omega
      refine ⟨fun σ H2 => σ = [some (.ref a), some (.ref ea), some (.ref ta), some (.ref D), none] ∧ Same H H2 ∧ ∃ acc2, H2 D = some (.lst acc2) ∧ DpAll K H2 acc2 (((ws.filter fun x => !decide ((x.1, x.2.1) = en)) ++ if ts = [] then [] else [(en.1, en.2, ts)]).map eW), ?_, fun σ H2 hM => ?_⟩
      · refine ⟨.ref ta, rfl, ta, txs, rfl, .inr (SqT.same hta s1), _, _, rfl, rfl, _, rfl, ite2 (fun c => ?_) (fun c => ?_)⟩
        · have c' := of_decide_eq_true c
          have hne : ts ≠ [] := fun z => by rw [z, List.length_nil] at htl; omega
          refine ⟨.ref D, rfl, .inl ⟨rfl, _, .inl (.inl hD)⟩, .ref ea, rfl, .ref ta, rfl, zl1, fun p np => ?_⟩
          have e2 := same_upd (o := .tup [.ref ta]) np
          refine catA_mk (SqT.same hea (s1.trans e2)) (.inl (.inl upd_same)) (by show 2 + 1 ≤ sizeLine; omega) fun H3 p3 e3 s3 => ?_
          have s13 := s1.trans (e2.trans e3)
          refine ⟨D, acc, .ref p3, rfl, rfl, e3 _ _ (e2 _ _ hD), by omega, rfl, fun b o hb => ?_, _, upd_same, ?_⟩
          · rw [upd_ne (ne_of_none hb nD)]; exact s13 _ _ hb
          · rw [if_neg hne, List.map_append]
            have kt := kt_list (K := K) (ys := acc ++ [.ref p3]) (e3 _ _ (e2 _ _ hD))
            exact DpAll.app (DpAll.kt kt _ _ (flatDs_map _ flat_W _) (DpAll.same (e2.trans e3) _ _ hacc)) (.cons (Dp.kt kt _ _ (flat_W _) (.tup s3 (.cons (.int _) (.cons (.int _) (.cons (Dp.same s13 _ _ ht) .nil))))) .nil)
        · have c' := of_decide_eq_false (Bool.eq_false_iff.mpr c)
          have hne : ts = [] := List.eq_nil_of_length_eq_zero (by omega)
          refine ⟨rfl, s1, acc, hD, ?_⟩
          rw [if_pos hne, List.append_nil]
          exact hacc
      · obtain ⟨rfl, s2, acc2, hD2, hacc2⟩ := hM
        refine ⟨.ref D, rfl, D, acc2, _, rfl, .inl (.inl hD2), hacc2, ?_, ?_, ?_, fun ys p np dys => ?_⟩
        · exact PySem.W.AllAlike.of alike_W
        · exact PySem.W.Sortable.tuples fun b => ⟨_, _, rfl⟩
        · intro d hd
          obtain ⟨x, _, rfl⟩ := List.mem_map.mp hd
          exact Nat.le_trans (shp_W x).2 (by decide)
        · rw [sort_W] at dys
          have e3 := same_upd (o := .lst ys) np
          refine ⟨p, ys, rfl, .inl ⟨.inl (.inl upd_same), fun l nl => q _ _ (s2.trans (e3.trans (same_upd nl))) ?_⟩⟩
          exact Dp.new nl (DpAll.same e3 _ _ dys)

/-- a standing, or None -/
def Opt (K : PySem.W.Frag) (H : Hp) (u : V) : Option PS → Prop
  | none => u = .non
  | some s => Dp K H u (eS s)
theorem FitW.mono {n k : Nat} {ws : List Way} (h : FitW n ws) (hk : n ≤ k) : FitW k ws := ⟨Nat.le_trans h.1 hk, fun x hx => Nat.le_trans (h.2 x hx) hk⟩
theorem sendAll_snoc (h : Nat) (ls : List (Nat × Task)) (l : Nat × Task) (ws : List Way) : sendAll h (ls ++ [l]) ws = withWay (sendAll h ls ws) (h, l.1) (onWay (sendAll h ls ws) (h, l.1) ++ [l.2]) := by
  unfold sendAll
  rw [List.foldl_append]; rfl
theorem sendAll_fit {h n : Nat} : ∀ (ls : List (Nat × Task)) {ws : List Way}, FitW n ws → FitW (n + ls.length) (sendAll h ls ws) := by
  intro ls
  induction ls generalizing n with
  | nil => intro ws hw; exact hw
  | cons l ls ih =>
    intro ws hw
    have h1 : FitW (n + 1) (withWay ws (h, l.1) (onWay ws (h, l.1) ++ [l.2])) := withWay_fit hw (Nat.le_refl _) (by
      rw [List.length_append]
      have := onWay_len hw (h, l.1)
      show _ + 1 ≤ _
      omega)
    have h2 := ih h1
    rw [List.length_cons]
    have e : n + (ls.length + 1) = n + 1 + ls.length := by omega
    rw [e]; exact h2
theorem sentL_len {m : Nat} {R : Rules} (ok : okRules m R) (h : Nat) (t : Task) : (sentL m R h t).length ≤ 3 := by
  unfold sentL
  split
  · simp
  · rw [List.length_map]
    cases q : R[t.1]? with
    | none => simp
    | some r => exact (ok.2.2.2.2 r (List.mem_of_getElem? q)).1
def spAfterDo (K : PySem.W.Frag) (CW : Addr) : Sp := fun vs H Q _ => ∃ (a : Addr) (m : Nat) (R : Rules) (v : V) (s : PS) (h n : Nat), vs = [.ref a, v, .int (h : Int)] ∧ IsWorks K CW H a m R ∧ okRules m R ∧ Dp K H v (eS s) ∧ h < s.1.length ∧ s.1.length ≤ 6 ∧
  (∀ b ∈ s.1, ∀ t ∈ b, okTask R t) ∧ Fit n s ∧ n ≤ 900 ∧ ∀ H' u, Same H H' → Opt K H' u (afterDo m R s h) → Q u H'
theorem c_p_after_do (T : Tx K mg CW CR) : Cal P w K mg base 2 "after_do" (spAfterDo K CW) [] := by
  have c_p_letters_of := c_p_letters_of (P := P) (w := w) (base := base) T
  have c_p_on_way := c_p_on_way (P := P) (w := w) (base := base) T
  have c_p_with_way := c_p_with_way (P := P) (w := w) (base := base) T
  have c_p_replaced := c_p_replaced (P := P) (w := w) (base := base) T
  obtain ⟨f, fd, F, df⟩ := T.d_p_after_do.ex
  refine cal0 F (F.fn.binds df b_p_after_do) .nil sc_p_after_do (fun vs H Q E h => ?_) (fun cdv A outer s0 H vs Q E hr h => ?_)
  · obtain ⟨a, m, R, v, s, h, n, rfl, _⟩ := h; rfl
  · obtain ⟨a, m, R, v, s, h, n, rfl, ha, ok, hv, hh, h6, okt, fit, hn, q⟩ := h
    obtain ⟨st, b, ws, rfl, hst, hb, hws⟩ := standD hv
    obtain ⟨ba, bxs, rfl, hba, hbxs⟩ := tupD hb
    have hbl : bxs.length = s.1.length := by rw [DpAll.len hbxs, List.length_map]
    have hbag : s.1[h]? = some (s.1[h]'hh) := List.getElem?_eq_getElem hh
    obtain ⟨bv, hbv, dbv⟩ := item_at hbxs hbag
    obtain ⟨ya, ys, rfl, hya, hys, hyl⟩ := tasksD dbv
    have z := sizeLine_eq
    have okb := okt _ (List.mem_of_getElem? hbag)
    have fitb := fit.1 _ (List.mem_of_getElem? hbag)
    generalize hg : s.1[h]'hh = bag at hbag dbv hys hyl okb fitb
    refine ⟨_, (pss_cons (ps_asg (pv 1) (pgt K 2 (pgs_cons (pgn 3 sc_p_after_do.nd) (pgs_cons (pgn 4 sc_p_after_do.nd) pgs_nil))))
      (pss_cons (ps_if (pt_cmpR op_eq (pe_callB (klen K) (by rfl) T.z_len (by decide +kernel) (pa_cons (pe_ix (kixT K) (pv 3) (pv 2) (fun _ _ => rfl)) pa_nil)) pe_int (nomark _))
        (pss_one (ps_ret pe_non)) pss_nil)
      (pss_cons (ps_for PassesOwn.never rfl (kiTup K (pe_c c_p_letters_of hr (by decide) (by rfl) (pa_cons (pv 0) (pa_cons (pv 2) (pa_cons (pe_ix (kixT K) (pe_ix (kixT K) (pv 3) (pv 2) (fun _ _ => rfl)) pe_int (fun _ _ => rfl)) pa_nil))))) (pgt K 2 (pgs_cons (pgn 5 sc_p_after_do.nd) (pgs_cons (pgn 6 sc_p_after_do.nd) pgs_nil)))
        (pss_cons (ps_set (i := 7) sc_p_after_do.nd rfl (.inl rfl) (pe_tup (pa_cons (pv 2) (pa_cons (pv 5) pa_nil))))
        (pss_one (ps_set (i := 4) sc_p_after_do.nd rfl (.inl rfl) (pe_c c_p_with_way hr (by decide) (by rfl) (pa_cons (pv 4) (pa_cons (pv 7) (pa_cons (pe_op (kcat K) (pe_c c_p_on_way hr (by decide) (by rfl) (pa_cons (pv 4) (pa_cons (pv 7) pa_nil))) (pe_tup (pa_cons (pv 6) pa_nil))) pa_nil))))))))
      (pss_one (ps_ret (pe_tup (pa_cons (pe_c c_p_replaced hr (by decide) (by rfl) (pa_cons (pv 3) (pa_cons (pv 2) (pa_cons (pe_slice (kslT K) (pe_ix (kixT K) (pv 3) (pv 2) (fun _ _ => rfl)) (po_some pe_int) po_none) pa_nil)))) (pa_cons (pv 4) pa_nil)))))))), ?_⟩
    refine ⟨.ref st, rfl, st, _, rfl, hst, rfl, _, _, rfl, _, _, rfl, rfl, ?_⟩
    refine ⟨.ref ba, rfl, .int (h : Int), rfl, ba, bxs, h, .ref ya, rfl, rfl, hba, atI_nat hbv, ya, ys, rfl, .inr hya, rfl, _, rfl, ite2 (fun c => ?_) (fun c => ?_)⟩
    · have c' := V.int.inj (of_decide_eq_true c)
      refine q _ _ (Same.refl _) ?_
      have : bag = [] := List.eq_nil_of_length_eq_zero (by omega)
      unfold afterDo
      rw [hbag, this]; rfl
    · cases bag with
      | nil => exact absurd (by rw [hyl]; rfl) c
      | cons t r =>
        obtain ⟨tv, rvs, rfl, dt, drs⟩ := consD hys
        have oktt := okb t List.mem_cons_self
        have haft : afterDo m R s h = some (s.1.set h r, sendAll h (sentL m R h t) s.2) := by unfold afterDo; rw [hbag]
        have hlen3 := sentL_len ok h t
        refine ⟨.ref a, rfl, .int (h : Int), rfl, .ref ba, rfl, .int (h : Int), rfl, ba, bxs, h, .ref ya, rfl, rfl, hba, atI_nat hbv, ya, tv :: rvs, 0, tv, rfl, rfl, hya, atI_nat (j := 0) rfl, a, m, R, h, tv, t, rfl, ha, ok, dt, oktt, fun H1 u e1 du => ?_⟩
        obtain ⟨la, lxs, rfl, hla, hlxs⟩ := tupD du
        have hll : lxs.length = (sentL m R h t).length := by rw [DpAll.len hlxs, List.length_map]
        refine ⟨la, rfl, ⟨lxs, hla⟩, for_tup (xs := lxs) (fun i σ H2 => ∃ wv y5 y6 y7, σ = [some (.ref a), some (.ref st), some (.int (h : Int)), some (.ref ba), some wv, y5, y6, y7] ∧ Same H1 H2 ∧ Dp K H2 wv (eWs (sendAll h ((sentL m R h t).take i) s.2)))
          ⟨ws, none, none, none, rfl, Same.refl _, Dp.same e1 _ _ hws⟩ (fun i σ H2 _ hp => ?_) (fun i x σ H2 hi hp => ?_) (fun σ H2 hp => ?_)⟩
        · obtain ⟨_, _, _, _, _, e2, _⟩ := hp
          exact SqT.same hla e2
        · obtain ⟨wv, y5, y6, y7, rfl, e2, dw⟩ := hp
          obtain ⟨l, hl1, dl⟩ := item_of hlxs hi
          obtain ⟨lt, lu, rfl, hlt, dlu⟩ := lettD (Dp.same e2 _ _ dl)
          have hi3 : i < (sentL m R h t).length := (List.getElem?_eq_some_iff.mp hl1).1
          have fit2 : FitW (n + 3) (sendAll h ((sentL m R h t).take i) s.2) := (sendAll_fit _ (n := n) ⟨fit.2.1, fit.2.2⟩).mono (by rw [List.length_take]; omega)
          refine ⟨lt, _, rfl, hlt, rfl, _, _, rfl, _, _, rfl, rfl, ?_⟩
          refine ⟨.int (h : Int), rfl, .int (l.1 : Int), rfl, zl2, fun p np => ?_⟩
          have e3 := same_upd (o := .tup [.int (h : Int), .int (l.1 : Int)]) np
          have dp : Dp K (upd H2 p (.tup [.int (h : Int), .int (l.1 : Int)])) (.ref p) (eK (h, l.1)) := pairMk (.inl (.inl upd_same))
          refine ⟨wv, rfl, .ref p, rfl, wv, rfl, .ref p, rfl, wv, .ref p, _, (h, l.1), rfl, Dp.same e3 _ _ dw, dp, by have := fit2.1; omega, fun H3 u2 e4 du2 => ?_⟩
          obtain ⟨oa, oxs, rfl, hoa, hoxs, hol⟩ := tasksD du2
          refine ⟨lu, rfl, zl1, fun p2 np2 => ?_⟩
          have e5 := same_upd (o := .tup [lu]) np2
          have hon := onWay_len fit2 (h, l.1)
          refine catA_mk (SqT.same hoa e5) (.inl (.inl upd_same)) (by show oxs.length + 1 ≤ sizeLine; omega) fun H4 p4 e6 s6 => ?_
          have e36 := e3.trans (e4.trans (e5.trans e6))
          refine ⟨wv, .ref p, .ref p4, _, (h, l.1), onWay (sendAll h ((sentL m R h t).take i) s.2) (h, l.1) ++ [l.2], rfl, Dp.same e36 _ _ dw, Dp.same (e4.trans (e5.trans e6)) _ _ dp, .tup s6 ?_, by have := fit2.1; omega, fun H5 u5 e7 du5 => ?_⟩
          · rw [List.map_append]
            exact DpAll.app (DpAll.same (e5.trans e6) _ _ hoxs) (.cons (Dp.same e36 _ _ dlu) .nil)
          · refine ⟨u5, _, _, _, rfl, e2.trans (e36.trans e7), ?_⟩
            rw [List.take_add_one, hl1]
            show Dp K H5 u5 (eWs (sendAll h (_ ++ [l]) s.2))
            rw [sendAll_snoc]
            exact du5
        · obtain ⟨wv, y5, y6, y7, rfl, e2, dw⟩ := hp
          rw [hll, List.take_length] at dw
          have e12 := e1.trans e2
          refine ⟨.ref ba, rfl, .int (h : Int), rfl, .ref ba, rfl, .int (h : Int), rfl, ba, bxs, h, .ref ya, rfl, rfl, SqT.same hba e12, atI_nat hbv, 1, rfl, ?_⟩
          unfold tNoPart
          refine slA_mk (SqT.same hya e12) fun H3 p3 e3 s3 => ?_
          have c3 : cutV (tv :: rvs) (some 1) none = rvs := cut_from (tv :: rvs) 1
          rw [c3] at s3
          refine ⟨ba, bxs, h, .ref p3, rfl, SqT.same hba (e12.trans e3), by omega, by omega, fun H4 p4 e4 s4 => ?_⟩
          refine ⟨wv, rfl, zl2, fun p5 np5 => ?_⟩
          have e5 := same_upd (o := .tup [.ref p4, wv]) np5
          refine q _ _ (e12.trans (e3.trans (e4.trans e5))) ?_
          rw [haft]
          have drest : Dp K H4 (.ref p3) (eT r) := Dp.same e4 _ _ (.tup s3 (DpAll.same (e12.trans e3) _ _ drs))
          have dbags : Dp K H4 (.ref p4) (eB (s.1.set h r)) := .tup s4 (by
            rw [List.map_set]
            exact DpAll.set drest h (DpAll.same (e12.trans (e3.trans e4)) _ _ hbxs))
          exact Dp.new np5 (.cons dbags (.cons (Dp.same (e3.trans e4) _ _ dw) .nil))
def spAfterHear (K : PySem.W.Frag) : Sp := fun vs H Q _ => ∃ (v : V) (s : PS) (h g n : Nat), vs = [v, .int (h : Int), .int (g : Int)] ∧ Dp K H v (eS s) ∧ h < s.1.length ∧ s.1.length ≤ 6 ∧ Fit n s ∧ n ≤ 900 ∧ ∀ H' u, Same H H' → Opt K H' u (afterHear s h g) → Q u H'
theorem c_p_after_hear (T : Tx K mg CW CR) : Cal P w K mg base 2 "after_hear" (spAfterHear K) [] := by
  have c_p_on_way := c_p_on_way (P := P) (w := w) (base := base) T
  have c_p_with_way := c_p_with_way (P := P) (w := w) (base := base) T
  have c_p_replaced := c_p_replaced (P := P) (w := w) (base := base) T
  obtain ⟨f, fd, F, df⟩ := T.d_p_after_hear.ex
  refine cal0 F (F.fn.binds df b_p_after_hear) .nil sc_p_after_hear (fun vs H Q E h => ?_) (fun cdv A outer s0 H vs Q E hr h => ?_)
  · obtain ⟨v, s, h, g, n, rfl, _⟩ := h; rfl
  · obtain ⟨v, s, h, g, n, rfl, hv, hh, h6, fit, hn, q⟩ := h
    obtain ⟨st, b, ws, rfl, hst, hb, hws⟩ := standD hv
    obtain ⟨ba, bxs, rfl, hba, hbxs⟩ := tupD hb
    have hbl : bxs.length = s.1.length := by rw [DpAll.len hbxs, List.length_map]
    have hbag : s.1[h]? = some (s.1[h]'hh) := List.getElem?_eq_getElem hh
    obtain ⟨bv, hbv, dbv⟩ := item_at hbxs hbag
    obtain ⟨ya, ys, rfl, hya, hys, hyl⟩ := tasksD dbv
    have z := sizeLine_eq
    have fitb := fit.1 _ (List.mem_of_getElem? hbag)
    have fitw : FitW n s.2 := ⟨fit.2.1, fit.2.2⟩
    generalize hg : s.1[h]'hh = bag at hbag dbv hys hyl fitb
    refine ⟨_, (pss_cons (ps_asg (pv 0) (pgt K 2 (pgs_cons (pgn 3 sc_p_after_hear.nd) (pgs_cons (pgn 4 sc_p_after_hear.nd) pgs_nil))))
      (pss_cons (ps_set (i := 5) sc_p_after_hear.nd rfl (.inl rfl) (pe_tup (pa_cons (pv 2) (pa_cons (pv 1) pa_nil))))
      (pss_cons (ps_set (i := 6) sc_p_after_hear.nd rfl (.inl rfl) (pe_c c_p_on_way hr (by decide) (by rfl) (pa_cons (pv 4) (pa_cons (pv 5) pa_nil))))
      (pss_cons (ps_if (pt_cmpR op_eq (pe_callB (klen K) (by rfl) T.z_len (by decide +kernel) (pa_cons (pv 6) pa_nil)) pe_int (nomark _))
        (pss_one (ps_ret pe_non)) pss_nil)
      (pss_one (ps_ret (pe_tup (pa_cons (pe_c c_p_replaced hr (by decide) (by rfl) (pa_cons (pv 3) (pa_cons (pv 1) (pa_cons (pe_op (kcat K) (pe_ix (kixT K) (pv 3) (pv 1) (fun _ _ => rfl)) (pe_slice (kslT K) (pv 6) po_none (po_some pe_int))) pa_nil)))) (pa_cons (pe_c c_p_with_way hr (by decide) (by rfl) (pa_cons (pv 4) (pa_cons (pv 5) (pa_cons (pe_slice (kslT K) (pv 6) (po_some pe_int) po_none) pa_nil)))) pa_nil))))))))), ?_⟩
    refine ⟨.ref st, rfl, st, _, rfl, hst, rfl, _, _, rfl, _, _, rfl, rfl, ?_⟩
    refine ⟨.int (g : Int), rfl, .int (h : Int), rfl, zl2, fun p np => ?_⟩
    have e1 := same_upd (o := .tup [.int (g : Int), .int (h : Int)]) np
    have dp : Dp K (upd H p (.tup [.int (g : Int), .int (h : Int)])) (.ref p) (eK (g, h)) := pairMk (.inl (.inl upd_same))
    refine ⟨ws, rfl, .ref p, rfl, ws, .ref p, _, (g, h), rfl, Dp.same e1 _ _ hws, dp, by have := fitw.1; omega, fun H2 u e2 du => ?_⟩
    obtain ⟨ta, txs, rfl, hta, htxs, htl⟩ := tasksD du
    have hon := onWay_len fitw (g, h)
    refine ⟨.ref ta, rfl, ta, txs, rfl, .inr hta, rfl, _, rfl, ite2 (fun c => ?_) (fun c => ?_)⟩
    · have c' := V.int.inj (of_decide_eq_true c)
      refine q _ _ (e1.trans e2) ?_
      have : onWay s.2 (g, h) = [] := List.eq_nil_of_length_eq_zero (by omega)
      unfold afterHear
      rw [this]; rfl
    · cases how : onWay s.2 (g, h) with
      | nil => exact absurd (by rw [htl, how]; rfl) c
      | cons t r =>
        rw [how] at htxs hon
        obtain ⟨tv, rvs, rfl, dt, drs⟩ := consD htxs
        have haft : afterHear s h g = some (s.1.set h (bag ++ [t]), withWay s.2 (g, h) r) := by unfold afterHear; rw [how, hbag]; rfl
        have e12 := e1.trans e2
        refine ⟨.ref ba, rfl, .int (h : Int), rfl, .ref ba, rfl, .int (h : Int), rfl, ba, bxs, h, .ref ya, rfl, rfl, SqT.same hba e12, atI_nat hbv, .ref ta, rfl, ?_⟩
        unfold tNoPart
        refine ⟨1, rfl, slA_mk hta fun H3 p3 e3 s3 => ?_⟩
        have c3 : cutV (tv :: rvs) none (some 1) = [tv] := cut_to (tv :: rvs) 1
        rw [c3] at s3
        refine catA_mk (SqT.same hya (e12.trans e3)) s3 (by show ys.length + 1 ≤ sizeLine; omega) fun H4 p4 e4 s4 => ?_
        have e14 := e12.trans (e3.trans e4)
        refine ⟨ba, bxs, h, .ref p4, rfl, SqT.same hba e14, by omega, by omega, fun H5 p5 e5 s5 => ?_⟩
        have e15 := e14.trans e5
        refine ⟨ws, rfl, .ref p, rfl, .ref ta, rfl, 1, rfl, ?_⟩
        refine slA_mk (SqT.same hta (e3.trans (e4.trans e5))) fun H6 p6 e6 s6 => ?_
        have c6 : cutV (tv :: rvs) (some 1) none = rvs := cut_from (tv :: rvs) 1
        rw [c6] at s6
        have e26 := e3.trans (e4.trans (e5.trans e6))
        refine ⟨ws, .ref p, .ref p6, _, (g, h), r, rfl, Dp.same (e15.trans e6) _ _ hws, Dp.same (e2.trans e26) _ _ dp, .tup s6 (DpAll.same e26 _ _ drs), by have := fitw.1; omega, fun H7 u7 e7 du7 => ⟨zl2, fun p8 np8 => ?_⟩⟩
        have e8 := same_upd (o := .tup [.ref p5, u7]) np8
        refine q _ _ (e15.trans (e6.trans (e7.trans e8))) ?_
        rw [haft]
        have dbag : Dp K H7 (.ref p4) (eT (bag ++ [t])) := Dp.same (e5.trans (e6.trans e7)) _ _ (.tup s4 (by
          rw [List.map_append]
          exact DpAll.app (DpAll.same e14 _ _ hys) (.cons (Dp.same (e3.trans e4) _ _ dt) .nil)))
        have dbags : Dp K H7 (.ref p5) (eB (s.1.set h (bag ++ [t]))) := .tup (SqT.same s5 (e6.trans e7)) (by
          rw [List.map_set]
          exact DpAll.set dbag h (DpAll.same (e15.trans (e6.trans e7)) _ _ hbxs))
        exact Dp.new np8 (.cons dbags (.cons du7 .nil))
def spAllQuiet (K : PySem.W.Frag) : Sp := fun vs H Q _ => ∃ (v : V) (s : PS), vs = [v] ∧ Dp K H v (eS s) ∧ s.1.length ≤ 6 ∧ ∀ H', Same H H' → Q (.bl (allQuiet s)) H'
theorem c_p_is_all_quiet (T : Tx K mg CW CR) : Cal P w K mg base 1 "is_all_quiet" (spAllQuiet K) [] := by
  obtain ⟨f, fd, F, df⟩ := T.d_p_is_all_quiet.ex
  refine cal0 F (F.fn.binds df b_p_is_all_quiet) .nil sc_p_is_all_quiet (fun vs H Q E h => ?_) (fun cdv A outer s0 H vs Q E hr h => ?_)
  · obtain ⟨v, s, rfl, _⟩ := h; rfl
  · obtain ⟨v, s, rfl, hv, h6, q⟩ := h
    obtain ⟨st, b, ws, rfl, hst, hb, hws⟩ := standD hv
    obtain ⟨ba, bxs, rfl, hba, hbxs⟩ := tupD hb
    obtain ⟨wa, wxs, rfl, hwa, hwxs⟩ := tupD hws
    have hbl : bxs.length = s.1.length := by rw [DpAll.len hbxs, List.length_map]
    have hwl : wxs.length = s.2.length := by rw [DpAll.len hwxs, List.length_map]
    have z := sizeLine_eq
    refine ⟨_, (pss_one (ps_ret (pe_and (pe_callB (kall K) (by rfl) T.z_all (by decide +kernel) (pa_cons (pe_lc (own := [("bag", 1)]) (by rfl) sc_p_is_all_quiet.nd (kiTup K (pe_ix (kixT K) (pv 0) pe_int (fun _ _ => rfl))) (blkOk_by (N := N_p_is_all_quiet) (sc := fnScope s_p_is_all_quiet) (by decide +kernel)) (fun _ _ _ _ _ => (pgn 1 sc_p_is_all_quiet.nd)) (fun _ _ _ _ _ => pts_nil) (fun _ _ _ _ _ => (pe_cmpR op_eq (pe_callB (klen K) (by rfl) T.z_len (by decide +kernel) (pa_cons (pv 1) pa_nil)) pe_int (nomark _)))) pa_nil)) (pe_one (pe_cmpR op_eq (pe_callB (klen K) (by rfl) T.z_len (by decide +kernel) (pa_cons (pe_ix (kixT K) (pv 0) pe_int (fun _ _ => rfl)) pa_nil)) pe_int (nomark _)))))), ?_⟩
    refine ⟨.ref st, rfl, st, _, 0, .ref ba, rfl, rfl, hst, atI_nat (j := 0) rfl, ba, rfl, ⟨bxs, hba⟩, fun D nD => lc_tup (xs := bxs) (PvM K H D s.1 every fun b => .bool b.isEmpty) (PvM.zero nD) (fun i H' _ h => SqT.same hba h.same) (fun i x H' hi hP => ?_) (fun H' hP => ?_)⟩
    · obtain ⟨b, hb, db⟩ := item_of hbxs hi
      obtain ⟨t, xs, rfl, ht, _, hl⟩ := tasksD (Dp.same hP.same _ _ db)
      refine ⟨rfl, yesT ⟨.ref t, rfl, t, xs, rfl, .inr ht, rfl, hP.step nD (by omega) hb rfl (fun _ => rfl) (Same.refl _) ?_⟩⟩
      have : decide (V.int (xs.length : Int) = V.int 0) = b.isEmpty := by
        rw [hl]
        cases b with
        | nil => rfl
        | cons a b =>
          refine decide_eq_false fun e => ?_
          have := V.int.inj e
          rw [List.length_cons] at this
          omega
      rw [this]
      exact .bl _
    · obtain ⟨s1, acc, hD, hacc⟩ := hP.done (by omega)
      rw [filter_every] at hacc
      refine ⟨D, (s.1.map fun b => b.isEmpty), rfl, .inl (.inl (by rw [hD, bools_of hacc])), _, rfl, ?_⟩
      have hal : (s.1.map fun b => b.isEmpty).all id = s.1.all (·.isEmpty) := by rw [List.all_map]; rfl
      rw [hal]
      refine ite2 (fun c => ?_) (fun c => ?_)
      · refine ⟨.ref st, rfl, st, _, 1, .ref wa, rfl, rfl, SqT.same hst s1, atI_nat (j := 1) rfl, wa, wxs, rfl, .inr (SqT.same hwa s1), rfl, ?_⟩
        have : decide (V.int (wxs.length : Int) = V.int 0) = allQuiet s := by
          unfold allQuiet
          rw [hwl, c, Bool.true_and]
          cases s.2 with
          | nil => rfl
          | cons a b =>
            refine decide_eq_false fun e => ?_
            have := V.int.inj e
            rw [List.length_cons] at this
            omega
        rw [this]
        exact q _ s1
      · have : allQuiet s = false := by unfold allQuiet; rw [Bool.eq_false_iff.mpr c, Bool.false_and]
        rw [this] at q
        exact q _ s1
end
end Kq
namespace Kq
open PySem PySem.Spec PyProof.Rows
open L2 hiding CX0 E0 pass0 Fun fun_mk Fun.ok Fun.binds defArgs defBody defScope
open C8
/-! records.py: events, records -/
def evV : Ev → List V
  | .doo h => [.str "do", .int (h : Int)]
  | .hear h s => [.str "hear", .int (h : Int), .int (s : Int)]
  | .say h x => [.str "say", .int (h : Int), .str (wd x)]
def isDo : Ev → Bool
  | .doo _ => true
  | _ => false
def isSay : Ev → Bool
  | .say _ _ => true
  | _ => false
def evW : Ev → Str
  | .doo _ => "do"
  | .hear _ _ => "hear"
  | .say _ _ => "say"
theorem evV_0 (e : Ev) : (evV e)[0]? = some (.str (evW e)) := by cases e <;> rfl
theorem w_ne1 : decide (V.str "hear" = V.str "do") = false := by decide +kernel
theorem w_ne2 : decide (V.str "say" = V.str "do") = false := by decide +kernel
theorem w_ne3 : decide (V.str "say" = V.str "hear") = false := by decide +kernel
theorem w_ne4 : decide (V.str "do" = V.str "say") = false := by decide +kernel
theorem w_ne5 : decide (V.str "hear" = V.str "say") = false := by decide +kernel
theorem w_ne6 : decide (V.str "do" = V.str "hear") = false := by decide +kernel
theorem w_do (e : Ev) : decide (V.str (evW e) = V.str "do") = isDo e := by
  cases e
  · exact decide_eq_true rfl
  · exact w_ne1
  · exact w_ne2
theorem w_say (e : Ev) : decide (V.str (evW e) = V.str "say") = isSay e := by
  cases e
  · exact w_ne4
  · exact w_ne5
  · exact decide_eq_true rfl
section
variable {P : Program} {w : World} {K : PySem.W.Frag} {mg : Str → Option Value} {base : Heap} {CW CR : Addr}
abbrev N_p_is_event : List Str := ["works", "thing"]
theorem sc_p_is_event : FnScope N_p_is_event ["works", "thing"] (fnScope s_p_is_event) := fnScope_by (by decide +kernel)
abbrev N_Record_init : List Str := ["self", "works", "given", "events", "index", "event"]
theorem sc_Record_init : FnScope N_Record_init ["self", "works", "given", "events"] (fnScope s_Record_init) := fnScope_by (by decide +kernel)
abbrev N_Record_eq : List Str := ["self", "other"]
theorem sc_Record_eq : FnScope N_Record_eq ["self", "other"] (fnScope s_Record_eq) := fnScope_by (by decide +kernel)
abbrev N_p_after_event : List Str := ["works", "standing", "event"]
theorem sc_p_after_event : FnScope N_p_after_event ["works", "standing", "event"] (fnScope s_p_after_event) := fnScope_by (by decide +kernel)
theorem eventD {H : Hp} {v : V} {e : Ev} (h : Dp K H v (eE e)) : ∃ t, v = .ref t ∧ SqT K H t (evV e) := by
  cases e with
  | doo h1 =>
    obtain ⟨t, xs, rfl, q, a⟩ := tupD h
    obtain ⟨x, xs1, rfl, d1, a⟩ := consD a
    obtain ⟨y, xs2, rfl, d2, a⟩ := consD a
    cases nilD a
    rw [strD d1, intD d2] at q
    exact ⟨t, rfl, q⟩
  | hear h1 s =>
    obtain ⟨t, xs, rfl, q, a⟩ := tupD h
    obtain ⟨x, xs1, rfl, d1, a⟩ := consD a
    obtain ⟨y, xs2, rfl, d2, a⟩ := consD a
    obtain ⟨z, xs3, rfl, d3, a⟩ := consD a
    cases nilD a
    rw [strD d1, intD d2, intD d3] at q
    exact ⟨t, rfl, q⟩
  | say h1 s =>
    obtain ⟨t, xs, rfl, q, a⟩ := tupD h
    obtain ⟨x, xs1, rfl, d1, a⟩ := consD a
    obtain ⟨y, xs2, rfl, d2, a⟩ := consD a
    obtain ⟨z, xs3, rfl, d3, a⟩ := consD a
    cases nilD a
    rw [strD d1, intD d2, strD d3] at q
    exact ⟨t, rfl, q⟩
theorem evDp {H : Hp} (e : Ev) : DpAll K H (evV e) (match e with | .doo h => [.str "do", dI h] | .hear h s => [.str "hear", dI h, dI s] | .say h x => [.str "say", dI h, .str (wd x)]) := by
  cases e with
  | doo h => exact .cons (.str _) (.cons (.int _) .nil)
  | hear h s => exact .cons (.str _) (.cons (.int _) (.cons (.int _) .nil))
  | say h x => exact .cons (.str _) (.cons (.int _) (.cons (.str _) .nil))
theorem eventMk {H : Hp} {t : Addr} {e : Ev} (h : SqT K H t (evV e)) : Dp K H (.ref t) (eE e) := by
  have := evDp (K := K) (H := H) e
  cases e <;> exact .tup h this
def spEvent (K : PySem.W.Frag) (CW : Addr) : Sp := fun vs H Q _ => ∃ (a : Addr) (m : Nat) (R : Rules) (v : V) (e : Ev), vs = [.ref a, v] ∧ IsWorks K CW H a m R ∧ Dp K H v (eE e) ∧ okEv m e ∧ Q (.bl true) H
theorem inW (x : _root_.Fin 3) : inV (V.str (wd x)) [V.str "tree", V.str "ring", V.str "coin"] = true := by revert x; decide +kernel
theorem c_p_is_event (T : Tx K mg CW CR) : Cal P w K mg base 4 "is_event" (spEvent K CW) [] := by
  have c_p_is_sized := c_p_is_sized (P := P) (w := w) (base := base) T
  have c_p_is_below := c_p_is_below (P := P) (w := w) (base := base) T
  obtain ⟨wa, hwa, hwk⟩ := T.g_WATCHERS
  have gWATCHERS : ∃ u, mg "WATCHERS" = some u ∧ L2.RelV (.ref wa) u := ⟨_, hwa, rfl⟩
  obtain ⟨f, fd, F, df⟩ := T.d_p_is_event.ex
  refine cal0 F (F.fn.binds df b_p_is_event) .nil sc_p_is_event (fun vs H Q E h => ?_) (fun cdv A outer s0 H vs Q E hr h => ?_)
  · obtain ⟨a, m, R, v, e, rfl, _⟩ := h; rfl
  · obtain ⟨a, m, R, v, e, rfl, ha, hv, ok, q⟩ := h
    obtain ⟨da, ra, ha1, ha2⟩ := ha
    obtain ⟨t, rfl, ht⟩ := eventD hv
    have ty0 : TyX K H (.str (evW e)) (.type "str") := .base (.str _)
    have hl : wit ((evV e).length : Int) 2 3 = true := by cases e <;> rfl
    have hh : ∃ h : Nat, (evV e)[1]? = some (.int (h : Int)) ∧ h < m := by
      cases e with
      | doo h => exact ⟨h, rfl, ok⟩
      | hear h s => exact ⟨h, rfl, ok.1⟩
      | say h x => exact ⟨h, rfl, ok⟩
    obtain ⟨h, hh1, hh2⟩ := hh
    refine ⟨_, (pss_cons (ps_if (PW.pt (pw_or (pt_not (pt_val (pe_c c_p_is_sized hr (by decide) (by rfl) (pa_cons (pv 1) (pa_cons pe_int (pa_cons pe_int pa_nil)))))) (pw_or (pt_not (pt_val (pe_callB (kisi K) (by rfl) T.z_isinstance (by decide +kernel) (pa_cons (pe_ix (kixT K) (pv 1) pe_int (fun _ _ => rfl)) (pa_cons (pe_bltn (by rfl) T.z_str (by decide +kernel) (show RelV (.ty "str") _ from rfl)) pa_nil))))) (pw_or1 (pt_not (pt_val (pe_c c_p_is_below hr (by decide) (by rfl) (pa_cons (pe_ix (kixT K) (pv 1) pe_int (fun _ _ => rfl)) (pa_cons (kfld K (pv 0)) pa_nil)))))))))
        (pss_one (ps_ret pe_bl)) pss_nil)
      (pss_cons (ps_if (pt_cmpR op_eq (pe_ix (kixT K) (pv 1) pe_int (fun _ _ => rfl)) (pe_gc (by rfl) T.g_DO) (nomark _))
        (pss_one (ps_ret (pe_cmpR op_eq (pe_callB (klen K) (by rfl) T.z_len (by decide +kernel) (pa_cons (pv 1) pa_nil)) pe_int (nomark _)))) pss_nil)
      (pss_cons (ps_if (pt_cmpR op_ne (pe_callB (klen K) (by rfl) T.z_len (by decide +kernel) (pa_cons (pv 1) pa_nil)) pe_int (nomark _))
        (pss_one (ps_ret pe_bl)) pss_nil)
      (pss_cons (ps_if (pt_cmpR op_eq (pe_ix (kixT K) (pv 1) pe_int (fun _ _ => rfl)) (pe_gc (by rfl) T.g_HEAR) (nomark _))
        (pss_one (ps_ret (pe_c c_p_is_below hr (by decide) (by rfl) (pa_cons (pe_ix (kixT K) (pv 1) pe_int (fun _ _ => rfl)) (pa_cons (kfld K (pv 0)) pa_nil))))) pss_nil)
      (pss_one (ps_ret (pe_and (pe_cmpR op_eq (pe_ix (kixT K) (pv 1) pe_int (fun _ _ => rfl)) (pe_gc (by rfl) T.g_SAY) (nomark _)) (pe_and (pe_callB (kisi K) (by rfl) T.z_isinstance (by decide +kernel) (pa_cons (pe_ix (kixT K) (pv 1) pe_int (fun _ _ => rfl)) (pa_cons (pe_bltn (by rfl) T.z_str (by decide +kernel) (show RelV (.ty "str") _ from rfl)) pa_nil))) (pe_one (pe_cmpR (kin K) (pe_ix (kixT K) (pv 1) pe_int (fun _ _ => rfl)) (pe_gc (by rfl) gWATCHERS) (by rfl))))))))))), ?_⟩
    refine ⟨.ref t, rfl, t, _, 2, 3, rfl, ht, true, congrArg V.bl hl, iteF ?_⟩
    refine ⟨.ref t, rfl, t, _, 0, .str (evW e), rfl, rfl, ht, atI_nat (j := 0) (evV_0 e), _, _, _, _, true, rfl, .ty "str", ty0, kit_ty (by decide +kernel), true, rfl, iteF ?_⟩
    refine ⟨.ref t, rfl, t, _, 1, .int (h : Int), rfl, rfl, ht, atI_nat (j := 1) hh1, .ref a, rfl, a, CW, da, _, _, rfl, ha1, T.c_Works.ic.cl, T.n_many, rfl, _, _, rfl, true, congrArg V.bl (wit_yes (by omega) (by omega)), iteF ?_⟩
    refine ⟨.ref t, rfl, t, _, 0, .str (evW e), rfl, rfl, ht, atI_nat (j := 0) (evV_0 e), rfl, _, rfl, ?_⟩
    rw [w_do]
    cases e with
    | doo h1 => exact iteT ⟨.ref t, rfl, t, _, rfl, .inr ht, rfl, q⟩
    | hear h1 s =>
      refine iteF ⟨.ref t, rfl, t, _, rfl, .inr ht, rfl, _, rfl, iteF ?_⟩
      refine ⟨.ref t, rfl, t, _, 0, .str "hear", rfl, rfl, ht, atI_nat (j := 0) rfl, rfl, _, rfl, iteT' (decide_eq_true rfl) ?_⟩
      refine ⟨.ref t, rfl, t, _, 2, .int (s : Int), rfl, rfl, ht, atI_nat (j := 2) rfl, .ref a, rfl, a, CW, da, _, _, rfl, ha1, T.c_Works.ic.cl, T.n_many, rfl, _, _, rfl, ?_⟩
      have o2 := ok.2
      rw [wit_yes (by omega) (by omega)]
      exact q
    | say h1 x =>
      refine iteF ⟨.ref t, rfl, t, _, rfl, .inr ht, rfl, _, rfl, iteF ?_⟩
      refine ⟨.ref t, rfl, t, _, 0, .str "say", rfl, rfl, ht, atI_nat (j := 0) rfl, rfl, _, rfl, iteF' w_ne3 ?_⟩
      refine ⟨.ref t, rfl, t, _, 0, .str "say", rfl, rfl, ht, atI_nat (j := 0) rfl, rfl, true, congrArg V.bl (decide_eq_true rfl), iteT ?_⟩
      refine ⟨.ref t, rfl, t, _, 2, .str (wd x), rfl, rfl, ht, atI_nat (j := 2) rfl, _, _, _, _, true, rfl, .ty "str", .base (.str _), kit_ty (by decide +kernel), true, rfl, iteT ?_⟩
      refine ⟨.ref t, rfl, t, _, 2, .str (wd x), rfl, rfl, ht, atI_nat (j := 2) rfl, wa, _, rfl, .inr (.inr hwk), rfl, rfl, ?_⟩
      show Q (.bl (inV (V.str (wd x)) [V.str "tree", V.str "ring", V.str "coin"])) H
      rw [inW]
      exact q
/-- a record -/
def IsRec (K : PySem.W.Frag) (CW CR : Addr) (H : Hp) (a : Addr) (m : Nat) (R : Rules) (g : List Task) (es : List Ev) : Prop :=
  ∃ (dx wa : Addr) (gv ev : V), H a = some (.ins CR dx [("ruled", .ref wa), ("given", gv), ("events", ev)]) ∧ IsWorks K CW H wa m R ∧ Dp K H gv (eT g) ∧ Dp K H ev (eEs es)
theorem IsRec.same {H H1 : Hp} {a : Addr} {m : Nat} {R : Rules} {g : List Task} {es : List Ev} (h : IsRec K CW CR H a m R g es) (e : Same H H1) : IsRec K CW CR H1 a m R g es := by
  obtain ⟨dx, wa, gv, ev, h1, h2, h3, h4⟩ := h
  exact ⟨dx, wa, gv, ev, e _ _ h1, h2.same e, Dp.same e _ _ h3, Dp.same e _ _ h4⟩
theorem But.kt {x : Addr} {H H' : Hp} {o : HO} (h : But x H H') (hx : H x = some o) (hn : ∀ xs, o ≠ .tup xs ∧ ∀ ob, o ≠ .frz ob (.tup xs)) : KT K H H' := fun b zs q => by
  rcases q with (q | ⟨ob, q⟩) | q
  · exact .inl (.inl (h _ _ (ne_of q hx fun z => (hn zs).1 z.symm) q))
  · exact .inl (.inr ⟨ob, h _ _ (ne_of q hx fun z => (hn zs).2 ob z.symm) q⟩)
  · exact .inr q
theorem but_upd {x : Addr} {H : Hp} {o : HO} : But x H (upd H x o) := fun b q hb e => by rw [upd_ne hb]; exact e
theorem But.trans {x : Addr} {H H1 H2 : Hp} (a : But x H H1) (b : But x H1 H2) : But x H H2 := fun c o hc e => b c o hc (a c o hc e)
theorem Same.but {x : Addr} {H H1 : Hp} (a : Same H H1) : But x H H1 := fun c o _ e => a c o e
def spRInit (K : PySem.W.Frag) (CW CR : Addr) : Sp := fun vs H Q _ => ∃ (x dx wa : Addr) (m : Nat) (gv ev : V) (R : Rules) (g : List Task) (es : List Ev), vs = [.ref x, .ref wa, gv, ev] ∧ H x = some (.ins CR dx []) ∧ IsWorks K CW H wa m R ∧ x ≠ wa ∧
  Dp K H gv (eT g) ∧ (∀ t ∈ g, okTask R t) ∧ g.length ≤ 20 ∧ Dp K H ev (eEs es) ∧ (∀ e ∈ es, okEv m e) ∧ es.length ≤ 2000 ∧
  ∀ H', But x H H' → H' x = some (.ins CR dx [("ruled", .ref wa), ("given", gv), ("events", ev)]) → Q .non H'
theorem c_Record (T : Tx K mg CW CR) : Mak P w K mg base 7 "Record" CR (spRInit K CW CR) [] := by
  have c_p_check_given := c_p_check_given (P := P) (w := w) (base := base) T
  have c_p_is_sized := c_p_is_sized (P := P) (w := w) (base := base) T
  have c_p_is_event := c_p_is_event (P := P) (w := w) (base := base) T
  obtain ⟨f, fd, me, F, df⟩ := T.m_Record_init.ex
  refine mak0 (qual := "Record.__init__") ⟨T.c_Record.mks, me.at_, me.fn, T.c_Record.kc⟩ T.c_Record.mgC F (F.binds df b_Record_init) .nil sc_Record_init (fun vs H Q E h => ?_) (fun cdv A outer s H vs Q E hr h => ?_)
  · obtain ⟨x, dx, wa, m, gv, ev, R, g, es, rfl, _⟩ := h; rfl
  · obtain ⟨x, dx, wa, m, gv, ev, R, g, es, rfl, hx, hw, hxw, hg, okg, lg, hev, oke, le, q⟩ := h
    obtain ⟨a, xs, rfl, hs, hxs⟩ := tupD hev
    have hl : xs.length = es.length := by rw [DpAll.len hxs, List.length_map]
    have z := sizeLine_eq
    refine ⟨_, (pss_cons (ps_expr (pe_c c_p_check_given hr (by decide) (by rfl) (pa_cons (pv 1) (pa_cons (pv 2) pa_nil))))
      (pss_cons (ps_if (pt_not (pt_val (pe_c c_p_is_sized hr (by decide) (by rfl) (pa_cons (pv 3) (pa_cons pe_int (pa_cons (pe_gc (by rfl) T.g_MOST_EVENTS) pa_nil))))))
        (pss_one ps_never) pss_nil)
      (pss_cons (ps_for PassesOwn.never rfl (pi_enumT (by rfl) T.z_enumerate (pa_cons (pv 3) pa_nil)) (pgt K 2 (pgs_cons (pgn 4 sc_Record_init.nd) (pgs_cons (pgn 5 sc_Record_init.nd) pgs_nil)))
        (pss_one (ps_if (pt_not (pt_val (pe_c c_p_is_event hr (by decide) (by rfl) (pa_cons (pv 1) (pa_cons (pv 5) pa_nil)))))
          (pss_one ps_never) pss_nil)))
      (pss_cons (ps_fld (pv 0) (pv 1) rfl)
      (pss_cons (ps_fld (pv 0) (pv 2) rfl)
      (pss_one (ps_fld (pv 0) (pv 3) rfl))))))), ?_⟩
    refine ⟨.ref wa, rfl, gv, rfl, wa, m, R, gv, g, rfl, hw, hg, okg, lg, fun H1 e1 => ?_⟩
    refine ⟨.ref a, rfl, a, xs, 0, 2000, rfl, SqT.same hs e1, true, congrArg V.bl (wit_yes (by omega) (by omega)), iteF ?_⟩
    refine ⟨.ref a, rfl, a, xs, rfl, SqT.same hs e1, for_enumT (xs := xs) (fun i σ H' => ∃ y3 y4, σ = [some (.ref x), some (.ref wa), some gv, some (.ref a), y3, y4] ∧ Same H H') ⟨none, none, rfl, e1⟩
      (fun i σ H' _ h => ?_) (fun i v σ H' t hi hP nT => ?_) (fun σ H' hP => ?_)⟩
    · obtain ⟨_, _, _, e⟩ := h
      exact SqT.same hs e
    · obtain ⟨y3, y4, rfl, e⟩ := hP
      obtain ⟨r, hr1, dr⟩ := item_of hxs hi
      have e2 := same_upd (o := .tup [.int (i : Nat), v]) nT
      refine ⟨t, _, rfl, .inl (.inl upd_same), rfl, _, _, rfl, _, _, rfl, rfl, ?_⟩
      refine ⟨.ref wa, rfl, v, rfl, wa, m, R, v, r, rfl, hw.same (e.trans e2), Dp.same (e.trans e2) _ _ dr, oke r (List.mem_of_getElem? hr1), true, rfl, iteF ?_⟩
      exact ⟨some (.int (i : Nat)), some v, rfl, e.trans e2⟩
    · obtain ⟨y3, y4, rfl, e⟩ := hP
      refine ⟨.ref wa, rfl, .ref x, rfl, x, CR, dx, _, rfl, e _ _ hx, T.c_Record.ic.cl, T.n_ruled, by decide, ?_⟩
      refine ⟨gv, rfl, .ref x, rfl, x, CR, dx, _, rfl, upd_same, T.c_Record.ic.cl, T.n_given, (by show 1 < 1000; decide), ?_⟩
      refine ⟨.ref a, rfl, .ref x, rfl, x, CR, dx, _, rfl, upd_same, T.c_Record.ic.cl, T.n_events, (by show 2 < 1000; decide), ?_⟩
      refine q _ (fun b o hb q => ?_) ?_
      · rw [upd_ne hb, upd_ne hb, upd_ne hb]; exact e _ _ q
      · rw [upd_same]; rfl
/-- Record.__eq__ of a record and another one of the same works, or a thing that is no record -/
def spREq (K : PySem.W.Frag) (CW CR : Addr) : Sp := fun vs H Q _ => ∃ (a : Addr) (y : V) (m : Nat) (R : Rules) (g : List Task) (es : List Ev), vs = [.ref a, y] ∧ IsRec K CW CR H a m R g es ∧
  ((∃ (b : Addr) (es' : List Ev), y = .ref b ∧ IsRec K CW CR H b m R g es' ∧ ∀ H', Same H H' → Q (.bl (PyData.eqv (eEs es) (eEs es'))) H') ∨ (∃ t, TyX K H y t ∧ PySem.W.kitOne K t (.ref CR) = some false ∧ Q (.bl false) H))
theorem eqv_pair {a b c : PyData} {n : Nat} (h : shp n a) : PyData.eqv (.tuple [a, b]) (.tuple [a, c]) = PyData.eqv b c := by
  simp only [PyData.eqv, PyData.eqvAll, eqv_same h, Bool.true_and, Bool.and_true]
theorem c_Record_eq (T : Tx K mg CW CR) : Met P w K mg base 2 CR "__eq__" (spREq K CW CR) [] := by
  have c_Works_eq := c_Works_eq (P := P) (w := w) (base := base) T
  obtain ⟨f, fd, me, F, df⟩ := T.m_Record_eq.ex
  refine met0 (qual := "Record.__eq__") T.c_Record.ic.cl me F (F.binds df b_Record_eq) sc_Record_eq (fun vs H Q E h => ?_) (fun cdv A outer s H vs Q E hr h => ?_)
  · obtain ⟨a, y, m, R, g, es, rfl, _⟩ := h; rfl
  · obtain ⟨a, y, m, R, g, es, rfl, ha, hy⟩ := h
    refine ⟨_, (pss_cons (ps_if (PW.pt (pw_or (pt_not (pt_val (pe_callB (kisi K) (by rfl) T.z_isinstance (by decide +kernel) (pa_cons (pv 1) (pa_cons (pe_gc (by rfl) ⟨_, T.c_Record.mgC, show L2.RelV (.ref CR) _ from rfl⟩) pa_nil))))) (pw_or1 (pt_not (pt_cmpR (op_ownEq c_Works_eq hr (by decide)) (kfld K (pv 0)) (kfld K (pv 1)) (nomark _))))))
        (pss_one (ps_ret pe_bl)) pss_nil)
      (pss_one (ps_ret (pe_cmpR (keqD K hr) (pe_tup (pa_cons (kfld K (pv 0)) (pa_cons (kfld K (pv 0)) pa_nil))) (pe_tup (pa_cons (kfld K (pv 1)) (pa_cons (kfld K (pv 1)) pa_nil))) (nomark _))))), ?_⟩
    rcases hy with ⟨b, es', rfl, hb, q⟩ | ⟨t, ty, kt, q⟩
    · obtain ⟨da, wa, gv, ev, ha1, ha2, ha3, ha4⟩ := ha
      obtain ⟨db, wb, gv', ev', hb1, hb2, hb3, hb4⟩ := hb
      refine ⟨.ref b, rfl, _, _, _, _, true, rfl, .own CR, tyI T.c_Record hb1, T.c_Record.ic.me, true, rfl, iteF ?_⟩
      obtain ⟨dwa, rwa, hwa1, _⟩ := id ha2
      obtain ⟨dwb, rwb, hwb1, _⟩ := id hb2
      refine ⟨.ref a, rfl, a, CR, da, _, _, rfl, ha1, T.c_Record.ic.cl, T.n_ruled, rfl, .ref b, rfl, b, CR, db, _, _, rfl, hb1, T.c_Record.ic.cl, T.n_ruled, rfl, wa, dwa, _, _, rfl, hwa1, tyI T.c_Works hwb1, T.c_Works.nfo,
        wa, wb, m, R, rfl, ha2, hb2, fun H1 e1 => ⟨true, rfl, true, rfl, iteF ?_⟩⟩
      refine ⟨.ref a, rfl, a, CR, da, _, _, rfl, e1 _ _ ha1, T.c_Record.ic.cl, T.n_given, rfl, .ref a, rfl, a, CR, da, _, _, rfl, e1 _ _ ha1, T.c_Record.ic.cl, T.n_events, rfl, zl2, fun p np => ?_⟩
      have e2 := same_upd (o := .tup [gv, ev]) np
      refine ⟨.ref b, rfl, b, CR, db, _, _, rfl, e2 _ _ (e1 _ _ hb1), T.c_Record.ic.cl, T.n_given, rfl, .ref b, rfl, b, CR, db, _, _, rfl, e2 _ _ (e1 _ _ hb1), T.c_Record.ic.cl, T.n_events, rfl, zl2, fun p2 np2 => ?_⟩
      have e3 := same_upd (o := .tup [gv', ev']) np2
      have sh : ∀ es, shp 3 (.tuple [eT g, eEs es]) := fun es => shp_cons (shp_T g) (shp_cons (shp_Es es) shp_nil)
      refine ⟨_, _, Dp.same e3 _ _ (Dp.new np (.cons (Dp.same e1 _ _ ha3) (.cons (Dp.same e1 _ _ ha4) .nil))), Dp.new np2 (.cons (Dp.same (e1.trans e2) _ _ hb3) (.cons (Dp.same (e1.trans e2) _ _ hb4) .nil)), shp_shaped (sh es) (by decide), shp_shaped (sh es') (by decide), ?_⟩
      rw [eqv_pair (shp_T g)]
      exact q _ (e1.trans (e2.trans e3))
    · exact ⟨y, rfl, _, _, _, _, false, rfl, .own CR, ty, kt, false, rfl, iteT (iteT q)⟩
end
end Kq
namespace Kq
open PySem PySem.Spec PyProof.Rows
open L2 hiding CX0 E0 pass0 Fun fun_mk Fun.ok Fun.binds defArgs defBody defScope
open C8
/-! what holds of every standing of a run -/
structure Good (m : Nat) (R : Rules) (n : Nat) (s : PS) : Prop where
  len : s.1.length = m
  bags : ∀ b ∈ s.1, ∀ t ∈ b, okTask R t
  ways : ∀ x ∈ s.2, ∀ t ∈ x.2.2, okTask R t
  fit : Fit n s
theorem Fit.mono {n k : Nat} {s : PS} (h : Fit n s) (hk : n ≤ k) : Fit k s := ⟨fun b hb => Nat.le_trans (h.1 b hb) hk, Nat.le_trans h.2.1 hk, fun x hx => Nat.le_trans (h.2.2 x hx) hk⟩
theorem Good.mono {m n k : Nat} {R : Rules} {s : PS} (h : Good m R n s) (hk : n ≤ k) : Good m R k s := ⟨h.len, h.bags, h.ways, h.fit.mono hk⟩
theorem onWay_mem {ws : List Way} {e : Nat × Nat} {t : Task} (h : t ∈ onWay ws e) : ∃ x ∈ ws, t ∈ x.2.2 := by
  unfold onWay at h
  cases q : (ws.filter fun x => decide ((x.1, x.2.1) = e)) with
  | nil => rw [q] at h; simp at h
  | cons a r =>
    rw [q] at h
    have : a ∈ ws := (List.mem_filter.mp (q ▸ List.mem_cons_self : a ∈ ws.filter _)).1
    exact ⟨a, this, h⟩
theorem withWay_all {p : Task → Prop} {ws : List Way} {e : Nat × Nat} {ts : List Task} (h : ∀ x ∈ ws, ∀ t ∈ x.2.2, p t) (ht : ∀ t ∈ ts, p t) : ∀ x ∈ withWay ws e ts, ∀ t ∈ x.2.2, p t := by
  intro x hx t hxt
  unfold withWay sortW at hx
  rw [List.mem_mergeSort, List.mem_append] at hx
  rcases hx with hx | hx
  · exact h x (List.mem_filter.mp hx).1 t hxt
  · split at hx
    · cases hx
    · rw [List.mem_singleton] at hx
      subst hx
      exact ht t hxt
theorem sendAll_all {p : Task → Prop} {h : Nat} : ∀ (ls : List (Nat × Task)) {ws : List Way}, (∀ x ∈ ws, ∀ t ∈ x.2.2, p t) → (∀ l ∈ ls, p l.2) → ∀ x ∈ sendAll h ls ws, ∀ t ∈ x.2.2, p t := by
  intro ls
  induction ls with
  | nil => intro ws hw _; exact hw
  | cons l ls ih =>
    intro ws hw hl
    refine ih (ws := withWay ws (h, l.1) (onWay ws (h, l.1) ++ [l.2])) (withWay_all hw fun t ht => ?_) fun l' hl' => hl l' (List.mem_cons_of_mem _ hl')
    rw [List.mem_append, List.mem_singleton] at ht
    rcases ht with ht | ht
    · obtain ⟨x, hx, hxt⟩ := onWay_mem ht
      exact hw x hx t hxt
    · subst ht; exact hl l List.mem_cons_self
theorem sentL_ok {m : Nat} {R : Rules} (ok : okRules m R) (h : Nat) {t : Task} (ht : okTask R t) : ∀ l ∈ sentL m R h t, l.1 < m ∧ okTask R l.2 := by
  intro l hl
  unfold sentL at hl
  split at hl
  · cases hl
  · obtain ⟨p, hp, rfl⟩ := List.mem_map.mp hl
    cases q : R[t.1]? with
    | none => rw [q] at hp; cases hp
    | some r =>
      rw [q] at hp
      have h1 := (ok.2.2.2.2 r (List.mem_of_getElem? q)).2 p hp
      have h2 := ht.2
      have h3 := ok.1
      exact ⟨Nat.mod_lt _ (by omega), h1.2, by show t.2 - 1 ≤ 12; omega⟩
theorem mem_set {α : Type} {l : List α} {i : Nat} {a b : α} (h : b ∈ l.set i a) : b ∈ l ∨ b = a := List.mem_or_eq_of_mem_set h
theorem good_do {m n h : Nat} {R : Rules} {s s' : PS} (ok : okRules m R) (g : Good m R n s) (e : afterDo m R s h = some s') : Good m R (n + 3) s' := by
  unfold afterDo at e
  split at e
  · rename_i t r hb
    cases e
    have hm : t :: r ∈ s.1 := List.mem_of_getElem? hb
    have ht : okTask R t := g.bags _ hm t List.mem_cons_self
    have hfit := sendAll_fit (h := h) (sentL m R h t) (n := n) (ws := s.2) ⟨g.fit.2.1, g.fit.2.2⟩
    have hl3 := sentL_len ok h t
    have hfit3 := hfit.mono (k := n + 3) (by omega)
    refine ⟨by rw [List.length_set]; exact g.len, fun b hb2 t2 ht2 => ?_, sendAll_all _ g.ways fun l hl => (sentL_ok ok h ht l hl).2, fun b hb2 => ?_, hfit3.1, hfit3.2⟩
    · rcases mem_set hb2 with hb2 | rfl
      · exact g.bags b hb2 t2 ht2
      · exact g.bags _ hm t2 (List.mem_cons_of_mem _ ht2)
    · rcases mem_set hb2 with hb2 | rfl
      · have := g.fit.1 b hb2; omega
      · have := g.fit.1 _ hm
        rw [List.length_cons] at this
        omega
  · cases e
theorem good_hear {m n h f : Nat} {R : Rules} {s s' : PS} (g : Good m R n s) (e : afterHear s h f = some s') : Good m R (n + 3) s' := by
  unfold afterHear at e
  split at e
  · rename_i t r hw
    cases e
    have ht : ∀ t2 ∈ t :: r, okTask R t2 := fun t2 h2 => by
      rw [← hw] at h2
      obtain ⟨x, hx, hxt⟩ := onWay_mem h2
      exact g.ways x hx t2 hxt
    have hlen := onWay_len (n := n) (ws := s.2) ⟨g.fit.2.1, g.fit.2.2⟩ (f, h)
    rw [hw, List.length_cons] at hlen
    have hfit := withWay_fit (n := n) (k := n + 3) (ws := s.2) (e := (f, h)) (ts := r) ⟨g.fit.2.1, g.fit.2.2⟩ (by omega) (by omega)
    have old : ∀ b, b = ((s.1[h]?).getD []) → (∀ t2 ∈ b, okTask R t2) ∧ b.length ≤ n := fun b hb => by
      subst hb
      cases q : s.1[h]? with
      | none => exact ⟨fun t2 h2 => (nomatch h2), Nat.zero_le _⟩
      | some b =>
        have hm : b ∈ s.1 := List.mem_of_getElem? q
        exact ⟨g.bags b hm, g.fit.1 b hm⟩
    refine ⟨by rw [List.length_set]; exact g.len, fun b hb2 t2 ht2 => ?_, withWay_all g.ways fun t2 h2 => ht t2 (List.mem_cons_of_mem _ h2), fun b hb2 => ?_, hfit.1, hfit.2⟩
    · rcases mem_set hb2 with hb2 | rfl
      · exact g.bags b hb2 t2 ht2
      · rw [List.mem_append, List.mem_singleton] at ht2
        rcases ht2 with h2 | rfl
        · exact (old _ rfl).1 t2 h2
        · exact ht _ List.mem_cons_self
    · rcases mem_set hb2 with hb2 | rfl
      · have := g.fit.1 b hb2; omega
      · rw [List.length_append]
        have := (old _ rfl).2
        show _ + 1 ≤ _
        omega
  · cases e
theorem good_ev {m n : Nat} {R : Rules} {s s' : PS} (ok : okRules m R) (g : Good m R n s) {e : Ev} (h : afterEv m R s e = some s') : Good m R (n + 3) s' := by
  cases e with
  | doo h1 => exact good_do ok g h
  | hear h1 f => exact good_hear g h
  | say h1 x => cases h; exact g.mono (by omega)
theorem good_begun {m n : Nat} {R : Rules} {g : List Task} (ok : okRules m R) (hg : ∀ t ∈ g, okTask R t) (hn : g.length ≤ n) : Good m R n (begunS m g) := by
  have h1 := ok.1
  refine ⟨?_, fun b hb t ht => ?_, fun x hx => (nomatch hx), fun b hb => ?_, Nat.zero_le _, fun x hx => (nomatch hx)⟩
  · show (g :: List.replicate (m - 1) []).length = m
    rw [List.length_cons, List.length_replicate]; omega
  · rcases List.mem_cons.mp hb with rfl | hb
    · exact hg t ht
    · rw [(List.mem_replicate.mp hb).2] at ht; cases ht
  · rcases List.mem_cons.mp hb with rfl | hb
    · exact hn
    · rw [(List.mem_replicate.mp hb).2]; exact Nat.zero_le _
/-- the standings of a run, one event more each time: pre, then s, then what follows from s -/
theorem standings_none {m : Nat} {R : Rules} {s : PS} {e : Ev} {es : List Ev} (h : afterEv m R s e = none) : standings m R s (e :: es) = [s] := by
  rw [standings, h]
theorem standings_some {m : Nat} {R : Rules} {s s' : PS} {e : Ev} {es : List Ev} (h : afterEv m R s e = some s') : standings m R s (e :: es) = s :: standings m R s' es := by
  rw [standings, h]
theorem standings_len {m : Nat} {R : Rules} : ∀ (es : List Ev) (s : PS), 1 ≤ (standings m R s es).length ∧ (standings m R s es).length ≤ es.length + 1
  | [], s => ⟨by rw [standings]; simp, by rw [standings]; simp⟩
  | e :: es, s => by
    cases h : afterEv m R s e with
    | none => rw [standings_none h]; simp
    | some s' =>
      rw [standings_some h, List.length_cons, List.length_cons]
      have := standings_len (m := m) (R := R) es s'
      omega
theorem standings_good {m : Nat} {R : Rules} (ok : okRules m R) : ∀ (es : List Ev) (s : PS) (n : Nat), Good m R n s → ∀ x ∈ standings m R s es, x.1.length = m
  | [], s, n, g, x, hx => by
    rw [standings, List.mem_singleton] at hx
    subst hx; exact g.len
  | e :: es, s, n, g, x, hx => by
    cases h : afterEv m R s e with
    | none =>
      rw [standings_none h, List.mem_singleton] at hx
      subst hx; exact g.len
    | some s' =>
      rw [standings_some h, List.mem_cons] at hx
      rcases hx with rfl | hx
      · exact g.len
      · exact standings_good ok es s' (n + 3) (good_ev ok g h) x hx
/-! what the record's functions tell -/
def liesP (es : List Ev) (sts : List PS) : List Nat := (List.range (sts.length - 1)).filter fun i => ((es[i]?).map isSay).getD false && !((sts[i]?).map allQuiet).getD true
def wrongP (es : List Ev) (sts : List PS) : Option (Nat × Str) := match liesP es sts with
  | i :: _ => some (i, "lie")
  | [] => if sts.length - 1 = es.length then none else some (sts.length - 1, if ((es[sts.length - 1]?).map isDo).getD false = true then "idle" else "empty")
def eWr : Option (Nat × Str) → PyData
  | none => .none
  | some (i, x) => .tuple [dI i, .str x]
def quietF : Nat → List PS → Option Nat
  | _, [] => none
  | k, s :: r => if allQuiet s = true then some k else quietF (k + 1) r
def quietP (sts : List PS) : Option Nat := quietF 0 sts
def eQ : Option Nat → PyData
  | none => .none
  | some i => dI i
end Kq
namespace Kq
open PySem PySem.Spec PyProof.Rows
open L2 hiding CX0 E0 pass0 Fun fun_mk Fun.ok Fun.binds defArgs defBody defScope
open C8
/-! records.py: what happened behind each event -/
section
variable {P : Program} {w : World} {K : PySem.W.Frag} {mg : Str → Option Value} {base : Heap} {CW CR : Addr}
abbrev N_p_standings_of : List Str := ["record", "found", "event", "later"]
theorem sc_p_standings_of : FnScope N_p_standings_of ["record"] (fnScope s_p_standings_of) := fnScope_by (by decide +kernel)
abbrev N_p_lies_of : List Str := ["record", "standings", "found", "index"]
theorem sc_p_lies_of : FnScope N_p_lies_of ["record", "standings"] (fnScope s_p_lies_of) := fnScope_by (by decide +kernel)
abbrev N_p_first_wrong : List Str := ["record", "standings", "some", "last"]
theorem sc_p_first_wrong : FnScope N_p_first_wrong ["record"] (fnScope s_p_first_wrong) := fnScope_by (by decide +kernel)
abbrev N_p_standing_at : List Str := ["record", "at", "standings"]
theorem sc_p_standing_at : FnScope N_p_standing_at ["record", "at"] (fnScope s_p_standing_at) := fnScope_by (by decide +kernel)
abbrev N_p_quiet_from : List Str := ["record", "at", "standing"]
theorem sc_p_quiet_from : FnScope N_p_quiet_from ["record"] (fnScope s_p_quiet_from) := fnScope_by (by decide +kernel)
abbrev N_p_lies_in : List Str := ["record"]
theorem sc_p_lies_in : FnScope N_p_lies_in ["record"] (fnScope s_p_lies_in) := fnScope_by (by decide +kernel)
def spAfterEvent (K : PySem.W.Frag) (CW : Addr) : Sp := fun vs H Q _ => ∃ (a : Addr) (m : Nat) (R : Rules) (v u : V) (s : PS) (e : Ev) (n : Nat), vs = [.ref a, v, u] ∧ IsWorks K CW H a m R ∧ okRules m R ∧ Dp K H v (eS s) ∧ Dp K H u (eE e) ∧ okEv m e ∧
  Good m R n s ∧ n ≤ 900 ∧ ∀ H' u, Same H H' → Opt K H' u (afterEv m R s e) → Q u H'
theorem c_p_after_event (T : Tx K mg CW CR) : Cal P w K mg base 3 "after_event" (spAfterEvent K CW) [] := by
  have c_p_after_do := c_p_after_do (P := P) (w := w) (base := base) T
  have c_p_after_hear := c_p_after_hear (P := P) (w := w) (base := base) T
  obtain ⟨f, fd, F, df⟩ := T.d_p_after_event.ex
  refine cal0 F (F.fn.binds df b_p_after_event) .nil sc_p_after_event (fun vs H Q E h => ?_) (fun cdv A outer s0 H vs Q E hr h => ?_)
  · obtain ⟨a, m, R, v, u, s, e, n, rfl, _⟩ := h; rfl
  · obtain ⟨a, m, R, v, u, s, e, n, rfl, ha, okR, hv, hu, ok, g, hn, q⟩ := h
    obtain ⟨t, rfl, ht⟩ := eventD hu
    have h6 : s.1.length ≤ 6 := by rw [g.len]; exact okR.2.1
    refine ⟨_, (pss_cons (ps_if (pt_cmpR op_eq (pe_ix (kixT K) (pv 2) pe_int (fun _ _ => rfl)) (pe_gc (by rfl) T.g_DO) (nomark _))
        (pss_one (ps_ret (pe_c c_p_after_do hr (by decide) (by rfl) (pa_cons (pv 0) (pa_cons (pv 1) (pa_cons (pe_ix (kixT K) (pv 2) pe_int (fun _ _ => rfl)) pa_nil)))))) pss_nil)
      (pss_cons (ps_if (pt_cmpR op_eq (pe_ix (kixT K) (pv 2) pe_int (fun _ _ => rfl)) (pe_gc (by rfl) T.g_HEAR) (nomark _))
        (pss_one (ps_ret (pe_c c_p_after_hear hr (by decide) (by rfl) (pa_cons (pv 1) (pa_cons (pe_ix (kixT K) (pv 2) pe_int (fun _ _ => rfl)) (pa_cons (pe_ix (kixT K) (pv 2) pe_int (fun _ _ => rfl)) pa_nil)))))) pss_nil)
      (pss_one (ps_ret (pv 1))))), ?_⟩
    refine ⟨.ref t, rfl, t, _, 0, .str (evW e), rfl, rfl, ht, atI_nat (j := 0) (evV_0 e), rfl, _, rfl, ?_⟩
    rw [w_do]
    cases e with
    | doo h =>
      refine iteT ⟨.ref a, rfl, v, rfl, .ref t, rfl, t, _, 1, .int (h : Int), rfl, rfl, ht, atI_nat (j := 1) rfl, a, m, R, v, s, h, n, rfl, ha, okR, hv, by rw [g.len]; exact ok, h6, g.bags, g.fit, hn, q⟩
    | hear h f =>
      refine iteF ⟨.ref t, rfl, t, _, 0, .str "hear", rfl, rfl, ht, atI_nat (j := 0) rfl, rfl, _, rfl, iteT' (decide_eq_true rfl) ?_⟩
      exact ⟨v, rfl, .ref t, rfl, t, _, 1, .int (h : Int), rfl, rfl, ht, atI_nat (j := 1) rfl, .ref t, rfl, t, _, 2, .int (f : Int), rfl, rfl, ht, atI_nat (j := 2) rfl, v, s, h, f, n, rfl, hv, by rw [g.len]; exact ok.1, h6, g.fit, hn, q⟩
    | say h x =>
      refine iteF ⟨.ref t, rfl, t, _, 0, .str "say", rfl, rfl, ht, atI_nat (j := 0) rfl, rfl, _, rfl, iteF' w_ne3 ?_⟩
      exact ⟨v, rfl, q _ _ (Same.refl _) hv⟩
def okRec (m : Nat) (R : Rules) (g : List Task) (es : List Ev) : Prop := okRules m R ∧ (∀ t ∈ g, okTask R t) ∧ g.length ≤ 20 ∧ (∀ e ∈ es, okEv m e) ∧ es.length ≤ 200
/-- the standings of a record -/
abbrev stsR (m : Nat) (R : Rules) (g : List Task) (es : List Ev) : List PS := standings m R (begunS m g) es
def spStandings (K : PySem.W.Frag) (CW CR : Addr) : Sp := fun vs H Q _ => ∃ (a : Addr) (m : Nat) (R : Rules) (g : List Task) (es : List Ev), vs = [.ref a] ∧ IsRec K CW CR H a m R g es ∧ okRec m R g es ∧
  ∀ H' p ys, Same H H' → H' p = some (.lst ys) → DpAll K H' ys ((stsR m R g es).map eS) → Q (.ref p) H'
theorem opt_non {H : Hp} {u : V} {o : Option PS} (h : Opt K H u o) : decide (u = .non) = o.isNone := by
  cases o with
  | none => exact decide_eq_true h
  | some s =>
    obtain ⟨t, xs, rfl, _⟩ := tupD h
    exact decide_eq_false fun z => nomatch z
theorem c_p_standings_of (T : Tx K mg CW CR) : Cal P w K mg base 4 "standings_of" (spStandings K CW CR) [] := by
  have c_p_begun := c_p_begun (P := P) (w := w) (base := base) T
  have c_p_after_event := c_p_after_event (P := P) (w := w) (base := base) T
  obtain ⟨f, fd, F, df⟩ := T.d_p_standings_of.ex
  refine cal0 F (F.fn.binds df b_p_standings_of) .nil sc_p_standings_of (fun vs H Q E h => ?_) (fun cdv A outer s0 H vs Q E hr h => ?_)
  · obtain ⟨a, m, R, g, es, rfl, _⟩ := h; rfl
  · obtain ⟨a, m, R, g, es, rfl, ha, ok, q⟩ := h
    obtain ⟨da, wa, gv, ev, ha1, ha2, ha3, ha4⟩ := id ha
    obtain ⟨okR, okg, lg, oke, le⟩ := ok
    obtain ⟨ea, exs, rfl, hea, hexs⟩ := tupD ha4
    have hel : exs.length = es.length := by rw [DpAll.len hexs, List.length_map]
    have z := sizeLine_eq
    have cl := T.c_Record.ic.cl
    refine ⟨_, (pss_cons (ps_set (i := 1) sc_p_standings_of.nd rfl (.inl rfl) (pe_lst (pa_cons (pe_c c_p_begun hr (by decide) (by rfl) (pa_cons (kfld K (pv 0)) (pa_cons (kfld K (pv 0)) pa_nil))) pa_nil)))
      (pss_cons (ps_for PassesOwn.never rfl (kiTup K (kfld K (pv 0))) (pgn 2 sc_p_standings_of.nd)
        (pss_cons (ps_set (i := 3) sc_p_standings_of.nd rfl (.inl rfl) (pe_c c_p_after_event hr (by decide) (by rfl) (pa_cons (kfld K (pv 0)) (pa_cons (pe_ix (kixL K) (pv 1) (pe_un un_neg pe_int) (fun _ _ => rfl)) (pa_cons (pv 2) pa_nil)))))
        (pss_cons (ps_if (pt_cmpR op_isN (pv 3) pe_non (nomark _))
          (pss_one (ps_ret (pv 1))) pss_nil)
        (pss_one (ps_expr (pe_bm PySem.F.plainAttrs_list PySem.F.slot_list_append PySem.F.type_list_append mt_append (pv 1) (pa_cons (pv 3) pa_nil)))))))
      (pss_one (ps_ret (pv 1))))), ?_⟩
    refine ⟨.ref a, rfl, a, CR, da, _, _, rfl, ha1, cl, T.n_ruled, rfl, .ref a, rfl, a, CR, da, _, _, rfl, ha1, cl, T.n_given, rfl, wa, m, R, gv, g, rfl, ha2, okR.1, okR.2.1, ha3, fun H1 u e1 du => ⟨zl1, fun D nD => ?_⟩⟩
    have e2 := same_upd (o := .lst [u]) nD
    have e12 := e1.trans e2
    have nD0 : H D = none := e1.free nD
    refine ⟨.ref a, rfl, a, CR, da, _, _, rfl, e12 _ _ ha1, cl, T.n_events, rfl, ea, rfl, ⟨exs, SqT.same hea e12⟩,
      for_tup (xs := exs) (fun i σ H2 => ∃ y2 y3 ys pre s, σ = [some (.ref a), some (.ref D), y2, y3] ∧ Same H H2 ∧ H2 D = some (.lst ys) ∧ DpAll K H2 ys ((pre ++ [s]).map eS) ∧ stsR m R g es = pre ++ standings m R s (es.drop i) ∧ Good m R (20 + 3 * i) s ∧ pre.length = i)
      ⟨none, none, [u], [], begunS m g, rfl, e12, upd_same, .cons (Dp.same e2 _ _ du) .nil, rfl, good_begun okR okg lg, rfl⟩ (fun i σ H2 _ hp => ?_) (fun i x σ H2 hi hp => ?_) (fun σ H2 hp => ?_)⟩
    · obtain ⟨_, _, _, _, _, _, e, _⟩ := hp
      exact SqT.same hea e
    · obtain ⟨y2, y3, ys, pre, s, rfl, e3, hD, hys, hst, gd, hpl⟩ := hp
      obtain ⟨e, he, de⟩ := item_of hexs hi
      have hie : i < es.length := (List.getElem?_eq_some_iff.mp he).1
      have hdrop : es.drop i = e :: es.drop (i + 1) := by
        rw [List.drop_eq_getElem_cons hie]
        congr 1
        have := List.getElem?_eq_getElem hie
        rw [he] at this
        exact (Option.some.inj this).symm
      have hyl : ys.length = i + 1 := by rw [DpAll.len hys, List.length_map, List.length_append, hpl]; rfl
      obtain ⟨ys0, yl, rfl, dl⟩ : ∃ ys0 yl, ys = ys0 ++ [yl] ∧ Dp K H2 yl (eS s) := by
        rw [List.map_append] at hys
        have h1 := DpAll.take pre.length hys
        have h2 := DpAll.drop pre.length hys
        have e1 : (pre.map eS ++ [s].map eS).drop pre.length = [eS s] := by
          have : (pre.map eS).length = pre.length := List.length_map ..
          rw [← this, List.drop_left]; rfl
        rw [e1] at h2
        obtain ⟨x, xs, e2, d2, d3⟩ := consD h2
        cases nilD d3
        exact ⟨ys.take pre.length, x, by rw [← e2, List.take_append_drop], d2⟩
      refine ⟨.ref a, rfl, a, CR, da, _, _, rfl, e3 _ _ ha1, cl, T.n_ruled, rfl, .ref D, rfl, 1, rfl, D, ys0 ++ [yl], -1, yl, rfl, rfl, .inl (.inl hD), atI_last _ _, x, rfl, ?_⟩
      refine ⟨wa, m, R, yl, x, s, e, 20 + 3 * i, rfl, ha2.same e3, okR, dl, Dp.same e3 _ _ de, oke e (List.mem_of_getElem? he), gd, by omega, fun H3 u3 e4 du3 => ?_⟩
      refine ⟨u3, rfl, rfl, _, rfl, ?_⟩
      rw [opt_non du3]
      have e34 := e3.trans e4
      cases hae : afterEv m R s e with
      | none =>
        refine iteT ⟨.ref D, rfl, q _ _ _ e34 (e4 _ _ hD) ?_⟩
        rw [hst, hdrop, standings_none hae]
        exact DpAll.same e4 _ _ hys
      | some s' =>
        rw [hae] at du3
        refine iteF ⟨.ref D, rfl, .inl ⟨rfl, _, .inl (.inl (e4 _ _ hD))⟩, u3, rfl, D, _, u3, rfl, rfl, e4 _ _ hD, by omega, ?_⟩
        have kt := kt_list (K := K) (ys := ys0 ++ [yl] ++ [u3]) (e4 _ _ hD)
        refine ⟨_, _, _, pre ++ [s], s', rfl, fun b o hb => ?_, upd_same, ?_, ?_, (good_ev okR gd hae).mono (by omega), by rw [List.length_append, hpl]; rfl⟩
        · rw [upd_ne (ne_of_none hb nD0)]; exact e34 _ _ hb
        · rw [List.map_append]
          exact DpAll.app (DpAll.kt kt _ _ (flatDs_map _ flat_S _) (DpAll.same e4 _ _ hys)) (.cons (Dp.kt kt _ _ (flat_S _) du3) .nil)
        · rw [hst, hdrop, standings_some hae, List.append_assoc]; rfl
    · obtain ⟨y2, y3, ys, pre, s, rfl, e3, hD, hys, hst, gd, hpl⟩ := hp
      refine ⟨.ref D, rfl, q _ _ _ e3 hD ?_⟩
      rw [hst, hel, List.drop_length, standings]
      exact hys
/-- which events were lies -/
def spLiesOf (K : PySem.W.Frag) (CW CR : Addr) : Sp := fun vs H Q _ => ∃ (a p : Addr) (m : Nat) (R : Rules) (g : List Task) (es : List Ev) (ys : List V) (sts : List PS), vs = [.ref a, .ref p] ∧ IsRec K CW CR H a m R g es ∧ H p = some (.lst ys) ∧ DpAll K H ys (sts.map eS) ∧
  (∀ s ∈ sts, s.1.length ≤ 6) ∧ 1 ≤ sts.length ∧ sts.length ≤ es.length + 1 ∧ es.length ≤ 200 ∧ ∀ H' d, Same H H' → H' d = some (.lst ((liesP es sts).map fun i : Nat => V.int (i : Int))) → Q (.ref d) H'
theorem c_p_lies_of (T : Tx K mg CW CR) : Cal P w K mg base 2 "lies_of" (spLiesOf K CW CR) [] := by
  have c_p_is_all_quiet := c_p_is_all_quiet (P := P) (w := w) (base := base) T
  obtain ⟨f, fd, F, df⟩ := T.d_p_lies_of.ex
  refine cal0 F (F.fn.binds df b_p_lies_of) .nil sc_p_lies_of (fun vs H Q E h => ?_) (fun cdv A outer s0 H vs Q E hr h => ?_)
  · obtain ⟨a, p, m, R, g, es, ys, sts, rfl, _⟩ := h; rfl
  · obtain ⟨a, p, m, R, g, es, ys, sts, rfl, ha, hp, hys, h6, l1, l2, l3, q⟩ := h
    obtain ⟨da, wa, gv, ev, ha1, ha2, ha3, ha4⟩ := id ha
    obtain ⟨ea, exs, rfl, hea, hexs⟩ := tupD ha4
    have hyl : ys.length = sts.length := by rw [DpAll.len hys, List.length_map]
    have z := sizeLine_eq
    have cl := T.c_Record.ic.cl
    have hn : ((ys.length : Int) - 1) = ((sts.length - 1 : Nat) : Int) := by omega
    refine ⟨_, (pss_cons (ps_set (i := 2) sc_p_lies_of.nd rfl (.inl rfl) (pe_lst pa_nil))
      (pss_cons (ps_for PassesOwn.never rfl (pi_range1 (by rfl) T.z_range (pa_cons (pe_op op_sub (pe_callB (klen K) (by rfl) T.z_len (by decide +kernel) (pa_cons (pv 1) pa_nil)) pe_int) pa_nil)) (pgn 3 sc_p_lies_of.nd)
        (pss_one (ps_if (PW.pt (pw_and (pt_cmpR op_eq (pe_ix (kixT K) (pe_ix (kixT K) (kfld K (pv 0)) (pv 3) (fun _ _ => rfl)) pe_int (fun _ _ => rfl)) (pe_gc (by rfl) T.g_SAY) (nomark _)) (pw_and1 (pt_not (pt_val (pe_c c_p_is_all_quiet hr (by decide) (by rfl) (pa_cons (pe_ix (kixL K) (pv 1) (pv 3) (fun _ _ => rfl)) pa_nil)))))))
          (pss_one (ps_expr (pe_bm PySem.F.plainAttrs_list PySem.F.slot_list_append PySem.F.type_list_append mt_append (pv 2) (pa_cons (pv 3) pa_nil)))) pss_nil)))
      (pss_one (ps_ret (pv 2))))), ?_⟩
    refine ⟨zl0, fun D nD => ?_⟩
    have e1 := same_upd (o := .lst []) nD
    refine ⟨.ref p, rfl, p, ys, rfl, .inl (.inl (.inl (e1 _ _ hp))), _, _, rfl, rfl, (ys.length : Int) - 1, rfl, by omega, by omega, for_range (lo := 0) (n := ((ys.length : Int) - 1).toNat)
      (fun i σ H2 => ∃ y3 acc, σ = [some (.ref a), some (.ref p), some (.ref D), y3] ∧ Same H H2 ∧ H2 D = some (.lst acc) ∧ acc = ((List.range i).filter fun i => ((es[i]?).map isSay).getD false && !((sts[i]?).map allQuiet).getD true).map fun i : Nat => V.int (i : Int))
      ⟨none, [], rfl, e1, upd_same, rfl⟩ (fun i σ H2 hi hP => ?_) (fun σ H2 hP => ?_)⟩
    · obtain ⟨y3, acc, rfl, e2, hD, hacc⟩ := hP
      have hi2 : i < sts.length - 1 := by omega
      have he : es[i]? = some (es[i]'(by omega)) := List.getElem?_eq_getElem (by omega)
      have hs : sts[i]? = some (sts[i]'(by omega)) := List.getElem?_eq_getElem (by omega)
      generalize (es[i]'(by omega) : Ev) = e at he
      generalize (sts[i]'(by omega) : PS) = s at hs
      obtain ⟨x, hx, dx⟩ := item_at hexs he
      obtain ⟨t, rfl, ht⟩ := eventD (Dp.same e2 _ _ dx)
      obtain ⟨y, hy, dy⟩ := item_at hys hs
      have hal : acc.length ≤ i := by
        rw [hacc, List.length_map]
        have := List.length_filter_le (fun i => ((es[i]?).map isSay).getD false && !((sts[i]?).map allQuiet).getD true) (List.range i)
        rw [List.length_range] at this
        exact this
      have hstep : ((List.range (i + 1)).filter fun i => ((es[i]?).map isSay).getD false && !((sts[i]?).map allQuiet).getD true) = ((List.range i).filter fun i => ((es[i]?).map isSay).getD false && !((sts[i]?).map allQuiet).getD true) ++ if (isSay e && !allQuiet s) = true then [i] else [] := by
        rw [List.range_succ, List.filter_append, List.filter_cons, List.filter_nil, he, hs]
        rfl
      have hz : (0 : Int) + (i : Int) = (i : Int) := by omega
      rw [hz]
      refine ⟨.ref a, rfl, a, CR, da, _, _, rfl, e2 _ _ ha1, cl, T.n_events, rfl, .int (i : Int), rfl, ea, exs, i, .ref t, rfl, rfl, SqT.same hea e2, atI_nat hx, t, _, 0, .str (evW e), rfl, rfl, ht, atI_nat (j := 0) (evV_0 e), rfl, _, rfl, ?_⟩
      rw [w_say]
      refine ite2 (fun c => ?_) (fun c => ?_)
      · refine ⟨.ref p, rfl, .int (i : Int), rfl, p, ys, i, y, rfl, rfl, .inl (.inl (e2 _ _ hp)), atI_nat hy, y, s, rfl, Dp.same e2 _ _ dy, h6 s (List.mem_of_getElem? hs), fun H3 e3 => ⟨_, rfl, ?_⟩⟩
        refine ite2 (fun c2 => ?_) (fun c2 => ?_)
        · refine ⟨.ref D, rfl, .inl ⟨rfl, _, .inl (.inl (e3 _ _ hD))⟩, .int (i : Int), rfl, D, acc, _, rfl, rfl, e3 _ _ hD, by omega, ?_⟩
          refine ⟨_, acc ++ [.int (i : Int)], rfl, fun b o hb => ?_, upd_same, ?_⟩
          · rw [upd_ne (ne_of_none hb nD)]; exact e3 _ _ (e2 _ _ hb)
          · rw [hstep, c, c2, hacc, List.map_append]; rfl
        · refine ⟨_, acc, rfl, e2.trans e3, e3 _ _ hD, ?_⟩
          rw [hstep, Bool.eq_false_iff.mpr c2, Bool.and_false, if_neg Bool.false_ne_true, List.append_nil]
          exact hacc
      · refine ⟨_, acc, rfl, e2, hD, ?_⟩
        rw [hstep, Bool.eq_false_iff.mpr c, Bool.false_and, if_neg Bool.false_ne_true, List.append_nil]
        exact hacc
    · obtain ⟨y3, acc, rfl, e2, hD, hacc⟩ := hP
      have hn2 : ((ys.length : Int) - 1).toNat = sts.length - 1 := by omega
      rw [hn2] at hacc
      refine ⟨.ref D, rfl, q _ _ e2 ?_⟩
      rw [hD, hacc]; rfl
end
end Kq
namespace Kq
open PySem PySem.Spec PyProof.Rows
open L2 hiding CX0 E0 pass0 Fun fun_mk Fun.ok Fun.binds defArgs defBody defScope
open C8
/-! records.py: first_wrong, standing_at, quiet_from, lies_in -/
section
variable {P : Program} {w : World} {K : PySem.W.Frag} {mg : Str → Option Value} {base : Heap} {CW CR : Addr}
theorem six_of {m : Nat} {R : Rules} {g : List Task} {es : List Ev} (ok : okRec m R g es) : ∀ s ∈ stsR m R g es, s.1.length ≤ 6 := fun s hs => by
  rw [standings_good ok.1 es _ 20 (good_begun ok.1 ok.2.1 ok.2.2.1) s hs]
  exact ok.1.2.1
theorem drop_get {α : Type} {l : List α} {i : Nat} {a : α} (h : l[i]? = some a) : l.drop i = a :: l.drop (i + 1) := by
  obtain ⟨hi, e⟩ := List.getElem?_eq_some_iff.mp h
  rw [List.drop_eq_getElem_cons hi, e]
def spFirstWrong (K : PySem.W.Frag) (CW CR : Addr) : Sp := fun vs H Q _ => ∃ (a : Addr) (m : Nat) (R : Rules) (g : List Task) (es : List Ev), vs = [.ref a] ∧ IsRec K CW CR H a m R g es ∧ okRec m R g es ∧
  ∀ H' u, Same H H' → Dp K H' u (eWr (wrongP es (stsR m R g es))) → Q u H'
theorem c_p_first_wrong (T : Tx K mg CW CR) : Cal P w K mg base 5 "first_wrong" (spFirstWrong K CW CR) [] := by
  have c_p_standings_of := c_p_standings_of (P := P) (w := w) (base := base) T
  have c_p_lies_of := c_p_lies_of (P := P) (w := w) (base := base) T
  obtain ⟨f, fd, F, df⟩ := T.d_p_first_wrong.ex
  refine cal0 F (F.fn.binds df b_p_first_wrong) .nil sc_p_first_wrong (fun vs H Q E h => ?_) (fun cdv A outer s0 H vs Q E hr h => ?_)
  · obtain ⟨a, m, R, g, es, rfl, _⟩ := h; rfl
  · obtain ⟨a, m, R, g, es, rfl, ha, ok, q⟩ := h
    obtain ⟨da, wa, gv, ev, ha1, ha2, ha3, ha4⟩ := id ha
    obtain ⟨ea, exs, rfl, hea, hexs⟩ := tupD ha4
    have hel : exs.length = es.length := by rw [DpAll.len hexs, List.length_map]
    have cl := T.c_Record.ic.cl
    have sl : 1 ≤ (stsR m R g es).length ∧ (stsR m R g es).length ≤ es.length + 1 := standings_len es (begunS m g)
    refine ⟨_, (pss_cons (ps_set (i := 1) sc_p_first_wrong.nd rfl (.inl rfl) (pe_c c_p_standings_of hr (by decide) (by rfl) (pa_cons (pv 0) pa_nil)))
      (pss_cons (ps_set (i := 2) sc_p_first_wrong.nd rfl (.inl rfl) (pe_c c_p_lies_of hr (by decide) (by rfl) (pa_cons (pv 0) (pa_cons (pv 1) pa_nil))))
      (pss_cons (ps_if (pt_cmpR op_gt (pe_callB (klen K) (by rfl) T.z_len (by decide +kernel) (pa_cons (pv 2) pa_nil)) pe_int (nomark _))
        (pss_one (ps_ret (pe_tup (pa_cons (pe_ix (kixL K) (pv 2) pe_int (fun _ _ => rfl)) (pa_cons (pe_gc (by rfl) T.g_LIE) pa_nil))))) pss_nil)
      (pss_cons (ps_set (i := 3) sc_p_first_wrong.nd rfl (.inl rfl) (pe_op op_sub (pe_callB (klen K) (by rfl) T.z_len (by decide +kernel) (pa_cons (pv 1) pa_nil)) pe_int))
      (pss_cons (ps_if (pt_cmpR op_eq (pv 3) (pe_callB (klen K) (by rfl) T.z_len (by decide +kernel) (pa_cons (kfld K (pv 0)) pa_nil)) (nomark _))
        (pss_one (ps_ret pe_non)) pss_nil)
      (pss_one (ps_ret (pe_tup (pa_cons (pv 3) (pa_cons (pe_ifExp (pt_cmpR op_eq (pe_ix (kixT K) (pe_ix (kixT K) (kfld K (pv 0)) (pv 3) (fun _ _ => rfl)) pe_int (fun _ _ => rfl)) (pe_gc (by rfl) T.g_DO) (nomark _)) (pe_gc (by rfl) T.g_IDLE) (pe_gc (by rfl) T.g_EMPTY)) pa_nil)))))))))), ?_⟩
    refine ⟨.ref a, rfl, a, m, R, g, es, rfl, ha, ok, fun H1 p ys e1 hp hys => ?_⟩
    have hyl : ys.length = (stsR m R g es).length := by rw [DpAll.len hys, List.length_map]
    refine ⟨.ref a, rfl, .ref p, rfl, a, p, m, R, g, es, ys, _, rfl, ha.same e1, hp, hys, six_of ok, sl.1, sl.2, ok.2.2.2.2, fun H2 d e2 hd => ?_⟩
    have e12 := e1.trans e2
    refine ⟨.ref d, rfl, d, _, rfl, .inl (.inl (.inl hd)), _, _, rfl, rfl, _, rfl, ite2 (fun c => ?_) (fun c => ?_)⟩
    · have c' := of_decide_eq_true c
      cases hlp : liesP es (stsR m R g es) with
      | nil => rw [hlp] at c'; simp at c'
      | cons i r =>
        rw [hlp] at hd
        refine ⟨.ref d, rfl, d, _, 0, .int (i : Int), rfl, rfl, .inl (.inl hd), atI_nat (j := 0) rfl, zl2, fun t nt => q _ _ (e12.trans (same_upd nt)) ?_⟩
        have : wrongP es (stsR m R g es) = some (i, ("lie" : Str)) := by unfold wrongP; rw [hlp]
        rw [this]
        exact Dp.new nt (.cons (.int _) (.cons (.str _) .nil))
    · have c' := of_decide_eq_false (Bool.eq_false_iff.mpr c)
      have hlp : liesP es (stsR m R g es) = [] := List.eq_nil_of_length_eq_zero (by rw [List.length_map] at c'; omega)
      refine ⟨.ref p, rfl, p, ys, rfl, .inl (.inl (.inl (e2 _ _ hp))), _, _, rfl, rfl, ?_⟩
      refine ⟨.int ((ys.length : Int) - 1), rfl, .ref a, rfl, a, CR, da, _, _, rfl, e12 _ _ ha1, cl, T.n_events, rfl, ea, exs, rfl, .inr (SqT.same hea e12), rfl, _, rfl, ite2 (fun c2 => ?_) (fun c2 => ?_)⟩
      · have c2' := V.int.inj (of_decide_eq_true c2)
        refine q _ _ e12 ?_
        have : wrongP es (stsR m R g es) = none := by
          unfold wrongP; rw [hlp]
          show (if (stsR m R g es).length - 1 = es.length then none else _) = none
          rw [if_pos (by omega)]
        rw [this]
        exact .non
      · have c2' : ¬ ((ys.length : Int) - 1 = (exs.length : Int)) := fun z => c2 (decide_eq_true (by rw [z]))
        have hlt : (stsR m R g es).length - 1 < es.length := by omega
        have he : es[(stsR m R g es).length - 1]? = some (es[(stsR m R g es).length - 1]'hlt) := List.getElem?_eq_getElem hlt
        generalize (es[(stsR m R g es).length - 1]'hlt : Ev) = e at he
        obtain ⟨x, hx, dx⟩ := item_at hexs he
        obtain ⟨t, rfl, ht⟩ := eventD (Dp.same e12 _ _ dx)
        have hidx : ((ys.length : Int) - 1) = (((stsR m R g es).length - 1 : Nat) : Int) := by omega
        have hw : wrongP es (stsR m R g es) = some ((stsR m R g es).length - 1, if isDo e = true then ("idle" : Str) else ("empty" : Str)) := by
          unfold wrongP; rw [hlp]
          show (if (stsR m R g es).length - 1 = es.length then none else _) = _
          rw [if_neg (by omega), he]; rfl
        refine ⟨.int ((ys.length : Int) - 1), rfl, .ref a, rfl, a, CR, da, _, _, rfl, e12 _ _ ha1, cl, T.n_events, rfl, .int ((ys.length : Int) - 1), rfl, ea, exs, _, .ref t, rfl, rfl, SqT.same hea e12, (by rw [hidx]; exact atI_nat hx), t, _, 0, .str (evW e), rfl, rfl, ht, atI_nat (j := 0) (evV_0 e), rfl, _, rfl, ?_⟩
        have dl : ∀ H, Dp K H (.int ((ys.length : Int) - 1)) (dI ((stsR m R g es).length - 1)) := fun H => by rw [hidx]; exact .int _
        rw [w_do]
        refine ite2 (fun c3 => ?_) (fun c3 => ?_)
        · refine ⟨zl2, fun u nu => q _ _ (e12.trans (same_upd nu)) ?_⟩
          rw [hw, if_pos c3]
          exact Dp.new nu (.cons (dl _) (.cons (.str _) .nil))
        · refine ⟨zl2, fun u nu => q _ _ (e12.trans (same_upd nu)) ?_⟩
          rw [hw, if_neg c3]
          exact Dp.new nu (.cons (dl _) (.cons (.str _) .nil))
def spStandingAt (K : PySem.W.Frag) (CW CR : Addr) : Sp := fun vs H Q _ => ∃ (a : Addr) (m : Nat) (R : Rules) (g : List Task) (es : List Ev) (i : Nat) (s : PS), vs = [.ref a, .int (i : Int)] ∧ IsRec K CW CR H a m R g es ∧ okRec m R g es ∧
  (stsR m R g es)[i]? = some s ∧ ∀ H' u, Same H H' → Dp K H' u (eS s) → Q u H'
theorem c_p_standing_at (T : Tx K mg CW CR) : Cal P w K mg base 5 "standing_at" (spStandingAt K CW CR) [] := by
  have c_p_standings_of := c_p_standings_of (P := P) (w := w) (base := base) T
  have c_p_is_within := c_p_is_within (P := P) (w := w) (base := base) T
  obtain ⟨f, fd, F, df⟩ := T.d_p_standing_at.ex
  refine cal0 F (F.fn.binds df b_p_standing_at) .nil sc_p_standing_at (fun vs H Q E h => ?_) (fun cdv A outer s0 H vs Q E hr h => ?_)
  · obtain ⟨a, m, R, g, es, i, s, rfl, _⟩ := h; rfl
  · obtain ⟨a, m, R, g, es, i, s, rfl, ha, ok, hi, q⟩ := h
    have hil := (List.getElem?_eq_some_iff.mp hi).1
    refine ⟨_, (pss_cons (ps_set (i := 2) sc_p_standing_at.nd rfl (.inl rfl) (pe_c c_p_standings_of hr (by decide) (by rfl) (pa_cons (pv 0) pa_nil)))
      (pss_cons (ps_if (pt_not (pt_val (pe_c c_p_is_within hr (by decide) (by rfl) (pa_cons (pv 1) (pa_cons pe_int (pa_cons (pe_op op_sub (pe_callB (klen K) (by rfl) T.z_len (by decide +kernel) (pa_cons (pv 2) pa_nil)) pe_int) pa_nil))))))
        (pss_one ps_never) pss_nil)
      (pss_one (ps_ret (pe_ix (kixL K) (pv 2) (pv 1) (fun _ _ => rfl)))))), ?_⟩
    refine ⟨.ref a, rfl, a, m, R, g, es, rfl, ha, ok, fun H1 p ys e1 hp hys => ?_⟩
    have hyl : ys.length = (stsR m R g es).length := by rw [DpAll.len hys, List.length_map]
    obtain ⟨y, hy, dy⟩ := item_at hys hi
    refine ⟨.int (i : Int), rfl, .ref p, rfl, p, ys, rfl, .inl (.inl (.inl hp)), _, _, rfl, rfl, _, _, _, rfl, true, congrArg V.bl (wit_yes (by omega) (by omega)), iteF ?_⟩
    exact ⟨.ref p, rfl, .int (i : Int), rfl, p, ys, i, y, rfl, rfl, .inl (.inl hp), atI_nat hy, q _ _ e1 dy⟩
def spQuietFrom (K : PySem.W.Frag) (CW CR : Addr) : Sp := fun vs H Q _ => ∃ (a : Addr) (m : Nat) (R : Rules) (g : List Task) (es : List Ev), vs = [.ref a] ∧ IsRec K CW CR H a m R g es ∧ okRec m R g es ∧
  ∀ H' u, Same H H' → Dp K H' u (eQ (quietP (stsR m R g es))) → Q u H'
theorem c_p_quiet_from (T : Tx K mg CW CR) : Cal P w K mg base 5 "quiet_from" (spQuietFrom K CW CR) [] := by
  have c_p_standings_of := c_p_standings_of (P := P) (w := w) (base := base) T
  have c_p_is_all_quiet := c_p_is_all_quiet (P := P) (w := w) (base := base) T
  obtain ⟨f, fd, F, df⟩ := T.d_p_quiet_from.ex
  refine cal0 F (F.fn.binds df b_p_quiet_from) .nil sc_p_quiet_from (fun vs H Q E h => ?_) (fun cdv A outer s0 H vs Q E hr h => ?_)
  · obtain ⟨a, m, R, g, es, rfl, _⟩ := h; rfl
  · obtain ⟨a, m, R, g, es, rfl, ha, ok, q⟩ := h
    have h6 := six_of ok
    refine ⟨_, (pss_cons (ps_for PassesOwn.never rfl (pi_enum (by rfl) T.z_enumerate (pa_cons (pe_c c_p_standings_of hr (by decide) (by rfl) (pa_cons (pv 0) pa_nil)) pa_nil)) (pgt K 2 (pgs_cons (pgn 1 sc_p_quiet_from.nd) (pgs_cons (pgn 2 sc_p_quiet_from.nd) pgs_nil)))
        (pss_one (ps_if (pt_val (pe_c c_p_is_all_quiet hr (by decide) (by rfl) (pa_cons (pv 2) pa_nil)))
          (pss_one (ps_ret (pv 1))) pss_nil)))
      (pss_one (ps_ret pe_non))), ?_⟩
    refine ⟨.ref a, rfl, a, m, R, g, es, rfl, ha, ok, fun H1 p ys e1 hp hys => ?_⟩
    generalize hst : stsR m R g es = sts at hys q h6
    refine ⟨p, ys, rfl, .inl (.inl hp), for_enum (xs := ys) (fun i σ H2 => ∃ y1 y2, σ = [some (.ref a), y1, y2] ∧ Same H1 H2 ∧ quietP sts = quietF i (sts.drop i)) ⟨none, none, rfl, Same.refl _, rfl⟩
      (fun i σ H2 _ h => ?_) (fun i x σ H2 t hi hP nt => ?_) (fun σ H2 hP => ?_)⟩
    · obtain ⟨_, _, _, e2, _⟩ := h
      exact .inl (.inl (e2 _ _ hp))
    · obtain ⟨y1, y2, rfl, e2, hq⟩ := hP
      obtain ⟨s, hs, ds⟩ := item_of hys hi
      have e3 := same_upd (o := .tup [.int (i : Nat), x]) nt
      rw [drop_get hs, quietF] at hq
      refine ⟨t, _, rfl, .inl (.inl upd_same), rfl, _, _, rfl, _, _, rfl, rfl, ?_⟩
      refine ⟨x, rfl, x, s, rfl, Dp.same (e2.trans e3) _ _ ds, h6 s (List.mem_of_getElem? hs), fun H3 e4 => ⟨_, rfl, ite2 (fun c => ?_) (fun c => ?_)⟩⟩
      · rw [if_pos c] at hq
        refine ⟨.int (i : Nat), rfl, q _ _ (e1.trans (e2.trans (e3.trans e4))) ?_⟩
        rw [hq]
        exact .int _
      · rw [if_neg c] at hq
        exact ⟨some (.int (i : Nat)), some x, rfl, e2.trans (e3.trans e4), hq⟩
    · obtain ⟨y1, y2, rfl, e2, hq⟩ := hP
      have hyl : ys.length = sts.length := by rw [DpAll.len hys, List.length_map]
      rw [hyl, List.drop_length, quietF] at hq
      refine q _ _ (e1.trans e2) ?_
      rw [hq]
      exact .non
def eLs (l : List Nat) : PyData := .tuple (l.map dI)
def spLiesIn (K : PySem.W.Frag) (CW CR : Addr) : Sp := fun vs H Q _ => ∃ (a : Addr) (m : Nat) (R : Rules) (g : List Task) (es : List Ev), vs = [.ref a] ∧ IsRec K CW CR H a m R g es ∧ okRec m R g es ∧
  ∀ H' u, Same H H' → Dp K H' u (eLs (liesP es (stsR m R g es))) → Q u H'
theorem nums_dp {H : Hp} : ∀ l : List Nat, DpAll K H (l.map fun i : Nat => V.int (i : Int)) (l.map dI)
  | [] => .nil
  | i :: l => .cons (.int _) (nums_dp l)
theorem c_p_lies_in (T : Tx K mg CW CR) : Cal P w K mg base 5 "lies_in" (spLiesIn K CW CR) [] := by
  have c_p_standings_of := c_p_standings_of (P := P) (w := w) (base := base) T
  have c_p_lies_of := c_p_lies_of (P := P) (w := w) (base := base) T
  obtain ⟨f, fd, F, df⟩ := T.d_p_lies_in.ex
  refine cal0 F (F.fn.binds df b_p_lies_in) .nil sc_p_lies_in (fun vs H Q E h => ?_) (fun cdv A outer s0 H vs Q E hr h => ?_)
  · obtain ⟨a, m, R, g, es, rfl, _⟩ := h; rfl
  · obtain ⟨a, m, R, g, es, rfl, ha, ok, q⟩ := h
    have sl : 1 ≤ (stsR m R g es).length ∧ (stsR m R g es).length ≤ es.length + 1 := standings_len es (begunS m g)
    refine ⟨_, (pss_one (ps_ret (pe_callTy (ktupO K) (by rfl) T.z_tuple (by decide +kernel) (pa_cons (pe_c c_p_lies_of hr (by decide) (by rfl) (pa_cons (pv 0) (pa_cons (pe_c c_p_standings_of hr (by decide) (by rfl) (pa_cons (pv 0) pa_nil)) pa_nil))) pa_nil)))), ?_⟩
    refine ⟨.ref a, rfl, .ref a, rfl, a, m, R, g, es, rfl, ha, ok, fun H1 p ys e1 hp hys => ?_⟩
    refine ⟨a, p, m, R, g, es, ys, _, rfl, ha.same e1, hp, hys, six_of ok, sl.1, sl.2, ok.2.2.2.2, fun H2 d e2 hd => ?_⟩
    refine ⟨d, _, rfl, .inl ⟨.inl (.inl hd), fun l nl => q _ _ (e1.trans (e2.trans (same_upd nl))) ?_⟩⟩
    exact Dp.new nl (nums_dp _)
end
end Kq
namespace Kq
open PySem PySem.Spec PyProof.Rows
open L2 hiding CX0 E0 pass0 Fun fun_mk Fun.ok Fun.binds defArgs defBody defScope
open C8
/-! the law's hand: what it draws -/
section
variable {P : Program} {w : World} {K : PySem.W.Frag} {mg : Str → Option Value} {base : Heap} {CW CR : Addr}
abbrev N_l_hand : List Str := ["_law_script", "_law_cells", "_law_cell"]
theorem sc_l_hand : FnScope N_l_hand ["_law_script"] (fnScope s_l_hand) := fnScope_by (by decide +kernel)
abbrev N_l_draw : List Str := ["_law_hand_here", "_law_many_here", "_law_cell", "_law_digit", "_law_number"]
theorem sc_l_draw : FnScope N_l_draw ["_law_hand_here", "_law_many_here"] (fnScope s_l_draw) := fnScope_by (by decide +kernel)
abbrev N_l_any : List Str := ["_law_hand_here", "_law_some"]
theorem sc_l_any : FnScope N_l_any ["_law_hand_here", "_law_some"] (fnScope s_l_any) := fnScope_by (by decide +kernel)
abbrev N_l_rules : List Str := ["_law_hand_here", "_law_many_here", "_law_kinds", "_law_rules_here", "_law_kind", "_law_pairs", "_law_turn"]
theorem sc_l_rules : FnScope N_l_rules ["_law_hand_here"] (fnScope s_l_rules) := fnScope_by (by decide +kernel)
/-- the hand at a, its cells at c -/
def Hand (H : Hp) (a c : Addr) : Prop := ∃ (cells : List Int) (i big x n : Int), H a = some (.lst [.ref c, .int i, .int big, .int x, .int n]) ∧ H c = some (.lst (cells.map V.int)) ∧ (∀ k ∈ cells, 0 ≤ k) ∧ 0 ≤ i ∧ 0 ≤ big ∧ c ≠ a
theorem Hand.same {H H1 : Hp} {a c : Addr} (h : Hand H a c) (e : Same H H1) : Hand H1 a c := by
  obtain ⟨cells, i, big, x, n, h1, h2, h3⟩ := h
  exact ⟨cells, i, big, x, n, e _ _ h1, e _ _ h2, h3⟩
theorem Hand.upd {H : Hp} {a c D : Addr} {o : HO} (h : Hand H a c) (h1 : D ≠ a) (h2 : D ≠ c) : Hand (upd H D o) a c := by
  obtain ⟨cells, i, big, x, n, e1, e2, h3⟩ := h
  exact ⟨cells, i, big, x, n, by rw [upd_ne (Ne.symm h1)]; exact e1, by rw [upd_ne (Ne.symm h2)]; exact e2, h3⟩
theorem Hand.fresh {H : Hp} {a c D : Addr} (h : Hand H a c) (hD : H D = none) : D ≠ a ∧ D ≠ c := by
  obtain ⟨cells, i, big, x, n, e1, e2, _⟩ := h
  exact ⟨fun z => (by rw [z, e1] at hD; cases hD), fun z => (by rw [z, e2] at hD; cases hD)⟩
theorem Hand.kt {H H' : Hp} {a c : Addr} (h : Hand H a c) (b : But a H H') : KT K H H' := by
  obtain ⟨cells, i, big, x, n, e1, _⟩ := h
  exact b.kt e1 fun xs => ⟨fun z => (nomatch z), fun _ z => (nomatch z)⟩
/-- something may have been drawn -/
structure Drew (a c : Addr) (H H' : Hp) : Prop where
  but : But a H H'
  hand : Hand H' a c
theorem Drew.refl {H : Hp} {a c : Addr} (h : Hand H a c) : Drew a c H H := ⟨fun _ _ _ e => e, h⟩
theorem Drew.same {H H1 H2 : Hp} {a c : Addr} (d : Drew a c H H1) (e : Same H1 H2) : Drew a c H H2 := ⟨d.but.trans (Same.but e), d.hand.same e⟩
theorem Drew.trans {H H1 H2 : Hp} {a c : Addr} (d : Drew a c H H1) (e : Drew a c H1 H2) : Drew a c H H2 := ⟨d.but.trans e.but, e.hand⟩
theorem Drew.new {H H1 : Hp} {a c D : Addr} {o : HO} (d : Drew a c H H1) (hD : H1 D = none) : Drew a c H (upd H1 D o) := d.same (same_upd hD)
theorem Drew.data {H H1 : Hp} {a c : Addr} (h : Hand H a c) (d : Drew a c H H1) {v : V} {x : PyData} (f : flatD x = true) (dv : Dp K H v x) : Dp K H1 v x := Dp.kt (h.kt d.but) _ _ f dv
theorem Drew.none {H H1 : Hp} {a c D : Addr} (h : Hand H a c) (d : Drew a c H H1) (hD : H1 D = none) : H D = none := by
  cases q : H D with
  | none => rfl
  | some o => rw [d.but D o (d.hand.fresh hD).1 q] at hD; cases hD
/-- _law_hand -/
def spHand (K : PySem.W.Frag) : Sp := fun vs H Q _ => ∃ (a : Addr) (ns : List Int), vs = [.ref a] ∧ SqL K H a (ns.map V.int) ∧ ∀ H' a c, Same H H' → Hand H' a c → Q (.ref a) H'
theorem c_l_hand (T : Tx K mg CW CR) : Cal P w K mg base 1 "_law_hand" (spHand K) [] := by
  obtain ⟨f, fd, F, df⟩ := T.d_l_hand.ex
  refine cal0 F (F.fn.binds df b_l_hand) .nil sc_l_hand (fun vs H Q E h => ?_) (fun cdv A outer s0 H vs Q E hr h => ?_)
  · obtain ⟨a, ns, rfl, _⟩ := h; rfl
  · obtain ⟨a, ns, rfl, ha, q⟩ := h
    refine ⟨_, (pss_cons (ps_setLc (own := [("_law_cell", 2)]) (i := 1) (by rfl) sc_l_hand.nd rfl rfl (sw_true rfl rfl rfl (by decide +kernel)) (kiList K (pe_slice (kslL K) (pv 0) po_none (po_some pe_int))) (blkOk_by (N := N_l_hand) (sc := fnScope s_l_hand) (by decide +kernel)) (fun _ _ _ _ _ => (pgn 2 sc_l_hand.nd)) (fun _ _ _ _ _ => pts_nil) (fun _ _ _ _ _ => (pe_callB call_abs (by rfl) T.z_abs (by decide +kernel) (pa_cons (pe_callTy call_int1 (by rfl) T.z_int (by decide +kernel) (pa_cons (pv 2) pa_nil)) pa_nil))))
      (pss_one (ps_ret (pe_lst (pa_cons (pv 1) (pa_cons pe_int (pa_cons pe_int (pa_cons (pe_op op_add pe_int (pe_callB (klen K) (by rfl) T.z_len (by decide +kernel) (pa_cons (pv 1) pa_nil))) (pa_cons pe_int pa_nil))))))))), ?_⟩
    have hcut : cutV (ns.map V.int) none (some (63 : Int)) = (ns.take 63).map V.int := by rw [show (63 : Int) = ((63 : Nat) : Int) from rfl, cut_to, List.map_take]
    refine ⟨.ref a, rfl, 63, rfl, a, _, rfl, ha, fun p np => ?_⟩
    rw [hcut]
    have e1 := same_upd (o := .lst ((ns.take 63).map V.int)) np
    have z := sizeLine_eq
    have hl63 : (ns.take 63).length ≤ 63 := by rw [List.length_take]; omega
    generalize ns.take 63 = l at e1 hl63
    have hdp : ∀ H, DpAll K H (l.map V.int) (l.map fun i => PyData.int i) := fun H => by
      have := ints_to (K := K) (H := H) (t := fun i : Int => i) l
      rw [List.map_id'] at this
      exact this
    refine ⟨p, rfl, ⟨l.map V.int, .inl (.inl upd_same)⟩, fun D nD => lc_list (xs := l.map V.int) (PvM K (upd H p (.lst (l.map V.int))) D l every fun i => .int (if i < 0 then -i else i)) (PvM.zero nD) (fun i H' _ h => SqL.same (.inl (.inl upd_same)) h.same) (fun i x H' hi hP => ?_) (fun H' hP => ?_)⟩
    · obtain ⟨k, hk, dk⟩ := item_of (hdp H') hi
      obtain rfl := intD dk
      refine ⟨rfl, yesT ⟨.int k, rfl, .inl ⟨k, rfl, k, rfl, ?_⟩⟩⟩
      exact hP.step nD (by omega) hk rfl (fun _ => rfl) (Same.refl _) (.int _)
    · obtain ⟨s1, acc, hD, hacc⟩ := hP.done (by rw [List.length_map]; exact Nat.le_refl _)
      rw [filter_every] at hacc
      rw [ints_of hacc] at hD
      refine ⟨.ref D, rfl, .ref D, rfl, D, _, rfl, .inl (.inl (.inl hD)), _, _, rfl, rfl, (by show 5 ≤ sizeLine; decide), fun r nr => q _ r D (e1.trans (s1.trans (same_upd nr))) ?_⟩
      refine ⟨_, 0, 0, _, 0, upd_same, (same_upd nr) _ _ hD, fun k hk => ?_, Int.le_refl _, Int.le_refl _, ne_of_none hD nr⟩
      obtain ⟨i, _, rfl⟩ := List.mem_map.mp hk
      show 0 ≤ if i < 0 then -i else i
      split <;> omega
/-- _law_draw -/
def spDraw : Sp := fun vs H Q _ => ∃ (a c : Addr) (m : Nat), vs = [.ref a, .int (m : Int)] ∧ Hand H a c ∧ 1 ≤ m ∧ m < 1073741824 ∧ ∀ H' (d : Nat), Drew a c H H' → d < m → Q (.int (d : Int)) H'
theorem c_l_draw (T : Tx K mg CW CR) : Cal P w K mg base 1 "_law_draw" spDraw [] := by
  obtain ⟨f, fd, F, df⟩ := T.d_l_draw.ex
  refine cal0 F (F.fn.binds df b_l_draw) .nil sc_l_draw (fun vs H Q E h => ?_) (fun cdv A outer s0 H vs Q E hr h => ?_)
  · obtain ⟨a, c, m, rfl, _⟩ := h; rfl
  · obtain ⟨a, c, m, rfl, ha, m1, m2, q⟩ := h
    refine ⟨_, (pss_cut (ps_if (PW.pt (pw_and (pt_cmpR op_eq (pe_ix (kixL K) (pv 0) pe_int (fun _ _ => rfl)) pe_int (nomark _)) (pw_and1 (pt_cmpR op_lt (pe_ix (kixL K) (pv 0) pe_int (fun _ _ => rfl)) (pe_callB (klen K) (by rfl) T.z_len (by decide +kernel) (pa_cons (pe_ix (kixL K) (pv 0) pe_int (fun _ _ => rfl)) pa_nil)) (nomark _)))))
        (pss_cons (ps_set (i := 2) sc_l_draw.nd rfl (.inl rfl) (pe_ix (kixL K) (pe_ix (kixL K) (pv 0) pe_int (fun _ _ => rfl)) (pe_ix (kixL K) (pv 0) pe_int (fun _ _ => rfl)) (fun _ _ => rfl)))
        (pss_cons (ps_asg (pe_op op_add (pe_ix (kixL K) (pv 0) pe_int (fun _ _ => rfl)) pe_int) (pg_sub (pv 0) pe_int set_list))
        (pss_cons (ps_asg (pe_op op_mod (pe_callTy call_int1 (by rfl) T.z_int (by decide +kernel) (pa_cons (pe_op op_add (pe_op op_add (pe_op op_mul (pe_ix (kixL K) (pv 0) pe_int (fun _ _ => rfl)) pe_int) (pv 2)) pe_int) pa_nil)) pe_int) (pg_sub (pv 0) pe_int set_list))
        (pss_one (ps_if (pt_cmpR op_ge (pv 2) (pe_op op_pow pe_int pe_int) (nomark _))
          (pss_one (ps_asg (pv 2) (pg_sub (pv 0) pe_int set_list))) pss_nil))))) pss_nil)
      (pss_cons (ps_if (pt_cmpR op_gt (pe_ix (kixL K) (pv 0) pe_int (fun _ _ => rfl)) pe_int (nomark _))
        (pss_cons (ps_set (i := 3) sc_l_draw.nd rfl (.inl rfl) (pe_op op_mod (pe_callTy call_int1 (by rfl) T.z_int (by decide +kernel) (pa_cons (pe_ix (kixL K) (pv 0) pe_int (fun _ _ => rfl)) pa_nil)) (pv 1)))
        (pss_cons (ps_asg (pe_op op_fdiv (pe_ix (kixL K) (pv 0) pe_int (fun _ _ => rfl)) (pv 1)) (pg_sub (pv 0) pe_int set_list))
        (pss_one (ps_ret (pv 3))))) pss_nil)
      (pss_cons (ps_asg (pe_op op_add (pe_ix (kixL K) (pv 0) pe_int (fun _ _ => rfl)) pe_int) (pg_sub (pv 0) pe_int set_list))
      (pss_cons (ps_set (i := 4) sc_l_draw.nd rfl (.inl rfl) (pe_op op_mod (pe_callTy call_int1 (by rfl) T.z_int (by decide +kernel) (pa_cons (pe_op op_mul (pe_callTy call_int1 (by rfl) T.z_int (by decide +kernel) (pa_cons (pe_op op_add (pe_ix (kixL K) (pv 0) pe_int (fun _ _ => rfl)) (pe_op op_mul pe_int (pe_ix (kixL K) (pv 0) pe_int (fun _ _ => rfl)))) pa_nil)) pe_int) pa_nil)) pe_int))
      (pss_cons (ps_set (i := 4) sc_l_draw.nd rfl (.inl rfl) (pe_op op_mod (pe_callTy call_int1 (by rfl) T.z_int (by decide +kernel) (pa_cons (pe_op op_mul (pv 4) (pe_op op_add (pe_op op_fdiv (pv 4) pe_int) pe_int)) pa_nil)) pe_int))
      (pss_cons (ps_set (i := 4) sc_l_draw.nd rfl (.inl rfl) (pe_op op_mod (pe_callTy call_int1 (by rfl) T.z_int (by decide +kernel) (pa_cons (pe_op op_mul (pv 4) (pe_op op_add (pe_op op_fdiv (pv 4) pe_int) pe_int)) pa_nil)) pe_int))
      (pss_one (ps_ret (pe_op op_mod (pe_callTy call_int1 (by rfl) T.z_int (by decide +kernel) (pa_cons (pe_op op_fdiv (pv 4) pe_int) pa_nil)) (pv 1)))))))))), ?_⟩
    have up : ∀ {H1 : Hp} {xs : List V}, But a H H1 → But a H (upd H1 a (.lst xs)) := fun b x o hx e => by rw [upd_ne hx]; exact b x o hx e
    have hmod : ∀ k : Int, ∃ d : Nat, k % (m : Int) = (d : Int) ∧ d < m := fun k => by
      have h1 := Int.emod_nonneg k (b := (m : Int)) (by omega)
      have h2 := Int.emod_lt_of_pos k (b := (m : Int)) (by omega)
      exact ⟨(k % (m : Int)).toNat, by omega, by omega⟩
    refine ⟨fun σ H1 => ∃ y2, σ = [some (.ref a), some (.int (m : Int)), y2, none, none] ∧ Drew a c H H1, ?_, fun σ H1 hM => ?_⟩
    · obtain ⟨cells, i, big, x, n, h1, h2, h3, h4, h5, h6⟩ := ha
      refine ⟨.ref a, rfl, a, _, 2, .int big, rfl, rfl, .inl (.inl h1), atI_nat (j := 2) rfl, rfl, _, rfl, ite2 (fun e => ?_) (fun e => ?_)⟩
      · refine ⟨.ref a, rfl, a, _, 1, .int i, rfl, rfl, .inl (.inl h1), atI_nat (j := 1) rfl, .ref a, rfl, a, _, 0, .ref c, rfl, rfl, .inl (.inl h1), atI_nat (j := 0) rfl, c, _, rfl, .inl (.inl (.inl h2)), _, _, rfl, rfl, _, rfl, ite2 (fun e2 => ?_) (fun e2 => ?_)⟩
        · have e2' : i < ((cells.map V.int).length : Int) := of_decide_eq_true e2
          rw [List.length_map] at e2'
          obtain ⟨k, hk⟩ : ∃ k, cells[i.toNat]? = some k := ⟨_, List.getElem?_eq_getElem (by omega)⟩
          have hk0 := h3 k (List.mem_of_getElem? hk)
          have hkv : atI (cells.map V.int) i = some (.int k) := by
            have := atI_nat (xs := cells.map V.int) (j := i.toNat) (v := .int k) (by rw [List.getElem?_map, hk]; rfl)
            rw [show ((i.toNat : Nat) : Int) = i by omega] at this
            exact this
          refine ⟨.ref a, rfl, a, _, 0, .ref c, rfl, rfl, .inl (.inl h1), atI_nat (j := 0) rfl, .ref a, rfl, a, _, 1, .int i, rfl, rfl, .inl (.inl h1), atI_nat (j := 1) rfl, c, _, i, .int k, rfl, rfl, .inl (.inl h2), hkv, ?_⟩
          refine ⟨.ref a, rfl, a, _, 1, .int i, rfl, rfl, .inl (.inl h1), atI_nat (j := 1) rfl, _, _, rfl, rfl, .ref a, rfl, a, _, 1, 1, rfl, rfl, h1, rfl, ?_⟩
          refine ⟨.ref a, rfl, a, _, 3, .int x, rfl, rfl, .inl (.inl upd_same), atI_nat (j := 3) rfl, _, _, rfl, rfl, (by show CMul x 69621; exact .inr (by decide)), .int k, rfl, _, _, rfl, rfl, _, _, rfl, rfl, .inl ⟨_, rfl, _, _, rfl, rfl, (by show (0 : Int) < 2147483629; decide), .ref a, rfl, a, _, 3, 3, rfl, rfl, upd_same, rfl, ?_⟩⟩
          refine ⟨.int k, rfl, _, _, rfl, rfl, (by show CPow 10 18; exact ⟨by decide, by decide, by decide⟩), _, _, rfl, rfl, _, rfl, ite2 (fun e3 => ?_) (fun e3 => ?_)⟩
          · refine ⟨.int k, rfl, .ref a, rfl, a, _, 2, 2, rfl, rfl, upd_same, rfl, some (.int k), rfl, up (up (up fun _ _ _ e => e)), cells, i + 1, k, _, n, upd_same, ?_, h3, by omega, hk0, h6⟩
            rw [upd_ne h6, upd_ne h6, upd_ne h6]; exact h2
          · refine ⟨some (.int k), rfl, up (up fun _ _ _ e => e), cells, i + 1, big, _, n, upd_same, ?_, h3, by omega, h5, h6⟩
            rw [upd_ne h6, upd_ne h6]; exact h2
        · exact ⟨none, rfl, fun _ _ _ e => e, cells, i, big, x, n, h1, h2, h3, h4, h5, h6⟩
      · exact ⟨none, rfl, fun _ _ _ e => e, cells, i, big, x, n, h1, h2, h3, h4, h5, h6⟩
    · obtain ⟨y2, rfl, hb, hh⟩ := hM
      obtain ⟨cells, i, big, x, n, h1, h2, h3, h4, h5, h6⟩ := hh
      refine ⟨.ref a, rfl, a, _, 2, .int big, rfl, rfl, .inl (.inl h1), atI_nat (j := 2) rfl, _, _, rfl, rfl, _, rfl, ite2 (fun e => ?_) (fun e => ?_)⟩
      · obtain ⟨d, hd, hdm⟩ := hmod big
        refine ⟨.ref a, rfl, a, _, 2, .int big, rfl, rfl, .inl (.inl h1), atI_nat (j := 2) rfl, .inl ⟨_, rfl, .int (m : Int), rfl, _, _, rfl, rfl, (by show (0 : Int) < m; omega), ?_⟩⟩
        refine ⟨.ref a, rfl, a, _, 2, .int big, rfl, rfl, .inl (.inl h1), atI_nat (j := 2) rfl, .int (m : Int), rfl, _, _, rfl, rfl, (by show CDiv big m; exact ⟨by omega, by omega⟩), .ref a, rfl, a, _, 2, 2, rfl, rfl, h1, rfl, ?_⟩
        refine ⟨.int (big % (m : Int)), rfl, ?_⟩
        rw [hd]
        refine q _ d ⟨up hb, cells, i, _, x, n, upd_same, ?_, h3, h4, Int.ediv_nonneg h5 (by omega), h6⟩ hdm
        rw [upd_ne h6]; exact h2
      · refine ⟨.ref a, rfl, a, _, 4, .int n, rfl, rfl, .inl (.inl h1), atI_nat (j := 4) rfl, _, _, rfl, rfl, .ref a, rfl, a, _, 4, 4, rfl, rfl, h1, rfl, ?_⟩
        have hh : Drew a c H (upd H1 a (.lst ([V.ref c, .int i, .int big, .int x, .int n].set 4 (.int (n + 1))))) := ⟨up hb, cells, i, big, x, n + 1, upd_same, by rw [upd_ne h6]; exact h2, h3, h4, h5, h6⟩
        refine ⟨.ref a, rfl, a, _, 3, .int x, rfl, rfl, .inl (.inl upd_same), atI_nat (j := 3) rfl, .ref a, rfl, a, _, 4, .int (n + 1), rfl, rfl, .inl (.inl upd_same), atI_nat (j := 4) rfl, _, _, rfl, rfl, (by show CMul 7919 _; exact .inl (by decide)), _, _, rfl, rfl, .inl ⟨_, rfl, _, _, rfl, rfl, (by show CMul _ 48271; exact .inr (by decide)), .inl ⟨_, rfl, _, _, rfl, rfl, (by show (0 : Int) < 2147483647; decide), ?_⟩⟩⟩
        have b1 := Int.emod_nonneg ((x + 7919 * (n + 1)) * 48271) (b := 2147483647) (by decide)
        have b2 := Int.emod_lt_of_pos ((x + 7919 * (n + 1)) * 48271) (b := 2147483647) (by decide)
        generalize hr1 : ((x + 7919 * (n + 1)) * 48271) % 2147483647 = r1 at b1 b2
        refine ⟨.int r1, (by rw [← hr1]; rfl), .int r1, (by rw [← hr1]; rfl), _, _, rfl, rfl, (by show CDiv r1 1009; exact ⟨by decide, by decide⟩), _, _, rfl, rfl, _, _, rfl, rfl, (by show CMul r1 _; exact .inl ⟨by omega, by omega⟩), .inl ⟨_, rfl, _, _, rfl, rfl, (by show (0 : Int) < 2147483647; decide), ?_⟩⟩
        have b3 := Int.emod_nonneg (r1 * (r1 / 1009 + 69621)) (b := 2147483647) (by decide)
        have b4 := Int.emod_lt_of_pos (r1 * (r1 / 1009 + 69621)) (b := 2147483647) (by decide)
        generalize hr2 : (r1 * (r1 / 1009 + 69621)) % 2147483647 = r2 at b3 b4
        refine ⟨.int r2, (by rw [← hr2]; rfl), .int r2, (by rw [← hr2]; rfl), _, _, rfl, rfl, (by show CDiv r2 2003; exact ⟨by decide, by decide⟩), _, _, rfl, rfl, _, _, rfl, rfl, (by show CMul r2 _; exact .inl ⟨by omega, by omega⟩), .inl ⟨_, rfl, _, _, rfl, rfl, (by show (0 : Int) < 2147483399; decide), ?_⟩⟩
        generalize hr3 : (r2 * (r2 / 2003 + 40692)) % 2147483399 = r3
        obtain ⟨d, hd, hdm⟩ := hmod (r3 / 16)
        refine ⟨.int r3, (by rw [← hr3]; rfl), _, _, rfl, rfl, (by show CDiv r3 16; exact ⟨by decide, by decide⟩), .inl ⟨_, rfl, .int (m : Int), rfl, _, _, rfl, rfl, (by show (0 : Int) < m; omega), ?_⟩⟩
        have qq := q _ d hh hdm
        rw [← hd] at qq
        exact qq
/-- _law_any -/
def spAny (K : PySem.W.Frag) : Sp := fun vs H Q _ => ∃ (a c p : Addr) (xs : List V), vs = [.ref a, .ref p] ∧ Hand H a c ∧ H p = some (.lst xs) ∧ p ≠ a ∧ 1 ≤ xs.length ∧ xs.length ≤ 1000 ∧ ∀ H' x, Drew a c H H' → x ∈ xs → Q x H'
theorem c_l_any (T : Tx K mg CW CR) : Cal P w K mg base 2 "_law_any" (spAny K) [] := by
  have c_l_draw := c_l_draw (P := P) (w := w) (base := base) T
  obtain ⟨f, fd, F, df⟩ := T.d_l_any.ex
  refine cal0 F (F.fn.binds df b_l_any) .nil sc_l_any (fun vs H Q E h => ?_) (fun cdv A outer s0 H vs Q E hr h => ?_)
  · obtain ⟨a, c, p, xs, rfl, _⟩ := h; rfl
  · obtain ⟨a, c, p, xs, rfl, ha, hp, hpa, l1, l2, q⟩ := h
    refine ⟨_, (pss_one (ps_ret (pe_ix (kixL K) (pv 1) (pe_c c_l_draw hr (by decide) (by rfl) (pa_cons (pv 0) (pa_cons (pe_callB (klen K) (by rfl) T.z_len (by decide +kernel) (pa_cons (pv 1) pa_nil)) pa_nil))) (fun _ _ => rfl)))), ?_⟩
    refine ⟨.ref p, rfl, .ref a, rfl, .ref p, rfl, p, xs, rfl, .inl (.inl (.inl hp)), a, c, xs.length, rfl, ha, l1, by omega, fun H1 d hd dl => ?_⟩
    obtain ⟨x, hx⟩ : ∃ x, xs[d]? = some x := ⟨_, List.getElem?_eq_getElem dl⟩
    exact ⟨p, xs, (d : Int), x, rfl, rfl, .inl (.inl (hd.but _ _ hpa hp)), atI_nat hx, q _ _ hd (List.mem_of_getElem? hx)⟩
/-! a list that grows by what is drawn -/
def PvR {α : Type} (K : PySem.W.Frag) (a c : Addr) (H1 : Hp) (D : Addr) (enc : α → PyData) (p : α → Prop) (i : Nat) (H : Hp) : Prop :=
  Drew a c H1 H ∧ ∃ (acc : List V) (es : List α), H D = some (.lst acc) ∧ DpAll K H acc (es.map enc) ∧ es.length = i ∧ ∀ e ∈ es, p e
section
variable {α : Type} {H H1 H4 : Hp} {a c D : Addr} {enc : α → PyData} {p : α → Prop} {i : Nat}
theorem PvR.zero (h : Hand H1 a c) (hD : H1 D = none) : PvR K a c H1 D enc p 0 (upd H1 D (.lst [])) := ⟨(Drew.refl h).new hD, [], [], upd_same, .nil, rfl, fun _ h => nomatch h⟩
theorem PvR.step (h0 : Hand H1 a c) (h : PvR K a c H1 D enc p i H) (hD : H1 D = none) (hi : i < sizeLine) (hfl : ∀ a, flatD (enc a) = true) (e : Drew a c H H4) {y : V} {x : α} (hx : p x) (hy : Dp K H4 y (enc x)) :
    ∃ acc, H4 D = some (.lst acc) ∧ acc.length < sizeLine ∧ PvR K a c H1 D enc p (i + 1) (upd H4 D (.lst (acc ++ [y]))) := by
  obtain ⟨s, acc, es, hd, hda, hl, hp⟩ := h
  obtain ⟨n1, n2⟩ := h0.fresh hD
  have hd4 := e.but _ _ n1 hd
  have kt := kt_list (K := K) (ys := acc ++ [y]) hd4
  refine ⟨acc, hd4, by rw [DpAll.len hda, List.length_map, hl]; exact hi, ⟨fun b o hb q => ?_, e.hand.upd n1 n2⟩, acc ++ [y], es ++ [x], upd_same, ?_, by rw [List.length_append, hl]; rfl, fun z hz => ?_⟩
  · rw [upd_ne (ne_of_none q hD)]
    exact e.but _ _ hb (s.but _ _ hb q)
  · rw [List.map_append]
    exact DpAll.app (DpAll.kt kt _ _ (flatDs_map _ hfl _) (DpAll.kt (s.hand.kt e.but) _ _ (flatDs_map _ hfl _) hda)) (.cons (Dp.kt kt _ _ (hfl x) hy) .nil)
  · rcases List.mem_append.mp hz with hz | hz
    · exact hp z hz
    · rw [List.mem_singleton] at hz
      subst hz; exact hx
theorem PvR.drew (h : PvR K a c H1 D enc p i H) (h0 : Hand H1 a c) (hD : H1 D = none) (hfl : ∀ a, flatD (enc a) = true) (e : Drew a c H H4) : PvR K a c H1 D enc p i H4 := by
  obtain ⟨s, acc, es, hd, hda, hl⟩ := h
  exact ⟨s.trans e, acc, es, e.but _ _ (h0.fresh hD).1 hd, DpAll.kt (s.hand.kt e.but) _ _ (flatDs_map _ hfl _) hda, hl⟩
end
theorem zlN {xs : List V} (h : xs.length ≤ 100) : xs.length ≤ sizeLine := Nat.le_trans h (by decide)
/-- _law_rules -/
def spLRules (K : PySem.W.Frag) : Sp := fun vs H Q _ => ∃ (a c : Addr), vs = [.ref a] ∧ Hand H a c ∧ ∀ H' t m r R, Drew a c H H' → SqT K H' t [.int ((m : Nat) : Int), r] → Dp K H' r (eR R) → okRules m R → Q (.ref t) H'
theorem c_l_rules (T : Tx K mg CW CR) : Cal P w K mg base 3 "_law_rules" (spLRules K) [] := by
  have c_l_draw := c_l_draw (P := P) (w := w) (base := base) T
  have c_l_any := c_l_any (P := P) (w := w) (base := base) T
  obtain ⟨f, fd, F, df⟩ := T.d_l_rules.ex
  refine cal0 F (F.fn.binds df b_l_rules) .nil sc_l_rules (fun vs H Q E h => ?_) (fun cdv A outer s0 H vs Q E hr h => ?_)
  · obtain ⟨a, c, rfl, _⟩ := h; rfl
  · obtain ⟨a, c, rfl, ha, q⟩ := h
    have z := sizeLine_eq
    refine ⟨_, (pss_cons (ps_asg (pe_tup (pa_cons (pe_c c_l_any hr (by decide) (by rfl) (pa_cons (pv 0) (pa_cons (pe_lst (pa_cons pe_int (pa_cons pe_int (pa_cons pe_int (pa_cons pe_int (pa_cons pe_int (pa_cons pe_int (pa_cons pe_int pa_nil)))))))) pa_nil))) (pa_cons (pe_c c_l_any hr (by decide) (by rfl) (pa_cons (pv 0) (pa_cons (pe_lst (pa_cons pe_int (pa_cons pe_int (pa_cons pe_int (pa_cons pe_int pa_nil))))) pa_nil))) pa_nil))) (pgt K 2 (pgs_cons (pgn 1 sc_l_rules.nd) (pgs_cons (pgn 2 sc_l_rules.nd) pgs_nil))))
      (pss_cons (ps_set (i := 3) sc_l_rules.nd rfl (.inl rfl) (pe_lst pa_nil))
      (pss_cons (ps_for PassesOwn.never rfl (pi_range1 (by rfl) T.z_range (pa_cons (pv 2) pa_nil)) (pgn 4 sc_l_rules.nd)
        (pss_cons (ps_set (i := 5) sc_l_rules.nd rfl (.inl rfl) (pe_c c_l_any hr (by decide) (by rfl) (pa_cons (pv 0) (pa_cons (pe_lst (pa_cons pe_int (pa_cons pe_int (pa_cons pe_int (pa_cons pe_int (pa_cons pe_int (pa_cons pe_int pa_nil))))))) pa_nil))))
        (pss_one (ps_expr (pe_bm PySem.F.plainAttrs_list PySem.F.slot_list_append PySem.F.type_list_append mt_append (pv 3) (pa_cons (pe_callTy (ktupO K) (by rfl) T.z_tuple (by decide +kernel) (pa_cons (pe_lc (own := [("_law_turn", 6)]) (by rfl) sc_l_rules.nd (pi_range1 (by rfl) T.z_range (pa_cons (pv 5) pa_nil)) (blkOk_by (N := N_l_rules) (sc := fnScope s_l_rules) (by decide +kernel)) (fun _ _ _ _ _ => (pgn 6 sc_l_rules.nd)) (fun _ _ _ _ _ => pts_nil) (fun _ _ _ _ _ => (pe_tup (pa_cons (pe_c c_l_draw hr (by decide) (by rfl) (pa_cons (pv 0) (pa_cons (pv 1) pa_nil))) (pa_cons (pe_c c_l_draw hr (by decide) (by rfl) (pa_cons (pv 0) (pa_cons (pv 2) pa_nil))) pa_nil))))) pa_nil)) pa_nil))))))
      (pss_one (ps_ret (pe_tup (pa_cons (pv 1) (pa_cons (pe_callTy (ktupO K) (by rfl) T.z_tuple (by decide +kernel) (pa_cons (pv 3) pa_nil)) pa_nil)))))))), ?_⟩
    refine ⟨.ref a, rfl, zlN (by decide), fun p np => ?_⟩
    have d1 := (Drew.refl ha).new (o := .lst [.int 1, .int 2, .int 2, .int 3, .int 3, .int 4, .int 6]) np
    refine ⟨a, c, p, _, rfl, d1.hand, upd_same, (ha.fresh np).1, by decide, by decide, fun H1 x d2 hx => ?_⟩
    obtain ⟨m, rfl, m1, m6⟩ : ∃ m : Nat, x = .int (m : Int) ∧ 1 ≤ m ∧ m ≤ 6 := by
      simp only [List.mem_cons, List.not_mem_nil, or_false] at hx
      rcases hx with rfl | rfl | rfl | rfl | rfl | rfl | rfl
      · exact ⟨1, rfl, by decide, by decide⟩
      · exact ⟨2, rfl, by decide, by decide⟩
      · exact ⟨2, rfl, by decide, by decide⟩
      · exact ⟨3, rfl, by decide, by decide⟩
      · exact ⟨3, rfl, by decide, by decide⟩
      · exact ⟨4, rfl, by decide, by decide⟩
      · exact ⟨6, rfl, by decide, by decide⟩
    refine ⟨.ref a, rfl, zlN (by decide), fun p2 np2 => ?_⟩
    have d3 := (d1.trans d2).new (o := .lst [.int 1, .int 1, .int 2, .int 3]) np2
    refine ⟨a, c, p2, _, rfl, d3.hand, upd_same, (d2.hand.fresh np2).1, by decide, by decide, fun H2 x d4 hx => ?_⟩
    obtain ⟨k, rfl, k1, k3⟩ : ∃ m : Nat, x = .int (m : Int) ∧ 1 ≤ m ∧ m ≤ 3 := by
      simp only [List.mem_cons, List.not_mem_nil, or_false] at hx
      rcases hx with rfl | rfl | rfl | rfl
      · exact ⟨1, rfl, by decide, by decide⟩
      · exact ⟨1, rfl, by decide, by decide⟩
      · exact ⟨2, rfl, by decide, by decide⟩
      · exact ⟨3, rfl, by decide, by decide⟩
    have d5 := d3.trans d4
    refine ⟨zl2, fun t nt => ?_⟩
    have d6 := d5.new (o := .tup [.int (m : Int), .int (k : Int)]) nt
    refine ⟨t, _, rfl, .inl (.inl upd_same), rfl, _, _, rfl, _, _, rfl, rfl, ?_⟩
    refine ⟨zl0, fun D nD => ?_⟩
    refine ⟨.int (k : Int), rfl, (k : Int), rfl, by omega, by omega, for_range (lo := 0) (n := ((k : Int)).toNat)
      (fun i σ H3 => ∃ y4 y5, σ = [some (.ref a), some (.int (m : Int)), some (.int (k : Int)), some (.ref D), y4, y5, none] ∧ PvR K a c (upd H2 t (.tup [.int (m : Int), .int (k : Int)])) D eT (fun r => r.length ≤ 3 ∧ ∀ p ∈ r, p.1 < m ∧ p.2 < k) i H3)
      ⟨none, none, rfl, PvR.zero d6.hand nD⟩ (fun i σ H3 hi hP => ?_) (fun σ H3 hP => ?_)⟩
    · obtain ⟨y4, y5, rfl, hP⟩ := hP
      have h3 := hP.1.hand
      refine ⟨.ref a, rfl, zlN (by decide), fun p3 np3 => ?_⟩
      have g1 := (Drew.refl h3).new (o := .lst [.int 0, .int 1, .int 1, .int 2, .int 2, .int 3]) np3
      refine ⟨a, c, p3, _, rfl, g1.hand, upd_same, (h3.fresh np3).1, by decide, by decide, fun H4 x g2 hx => ?_⟩
      obtain ⟨s, rfl, s3⟩ : ∃ m : Nat, x = .int (m : Int) ∧ m ≤ 3 := by
        simp only [List.mem_cons, List.not_mem_nil, or_false] at hx
        rcases hx with rfl | rfl | rfl | rfl | rfl | rfl
        · exact ⟨0, rfl, by decide⟩
        · exact ⟨1, rfl, by decide⟩
        · exact ⟨1, rfl, by decide⟩
        · exact ⟨2, rfl, by decide⟩
        · exact ⟨2, rfl, by decide⟩
        · exact ⟨3, rfl, by decide⟩
      have g3 := g1.trans g2
      obtain ⟨n1, n2⟩ := d6.hand.fresh nD
      refine ⟨.ref D, rfl, .inl ⟨rfl, (hP.drew d6.hand nD flat_T g3).2.choose, .inl (.inl (hP.drew d6.hand nD flat_T g3).2.choose_spec.choose_spec.1)⟩, .int (s : Int), rfl, (s : Int), rfl, by omega, by omega, fun D2 nD2 => lc_range (lo := 0) (n := ((s : Int)).toNat)
        (PvR K a c H4 D2 eK fun p => p.1 < m ∧ p.2 < k) (PvR.zero g3.hand nD2) (fun j H5 hj hP2 => ?_) (fun H5 hP2 => ?_)⟩
      · refine ⟨rfl, yesT ⟨.ref a, rfl, .int (m : Int), rfl, a, c, m, rfl, hP2.1.hand, m1, by omega, fun H6 x1 u1 hx1 => ⟨.ref a, rfl, .int (k : Int), rfl, a, c, k, rfl, u1.hand, k1, by omega, fun H7 x2 u2 hx2 => ⟨zl2, fun t2 nt2 => ?_⟩⟩⟩⟩
        exact PvR.step g3.hand hP2 nD2 (by omega) flat_K ((u1.trans u2).new nt2) (x := (x1, x2)) ⟨hx1, hx2⟩ (pairMk (.inl (.inl upd_same)))
      · obtain ⟨v1, acc, es, hD2, hacc, hl, hp⟩ := hP2
        refine ⟨D2, acc, rfl, .inl ⟨.inl (.inl hD2), fun l nl => ?_⟩⟩
        obtain ⟨acc2, w1, w2, w3⟩ := PvR.step d6.hand hP nD (by omega) flat_T ((g3.trans v1).new nl) (y := .ref l) (x := es) ⟨by omega, hp⟩ (Dp.new nl hacc)
        exact ⟨D, acc2, _, rfl, rfl, w1, w2, _, _, rfl, w3⟩
    · obtain ⟨y4, y5, rfl, v1, acc, es, hD, hacc, hl, hp⟩ := hP
      have hk2 : ((k : Int)).toNat = k := by omega
      rw [hk2] at hl
      refine ⟨.int (m : Int), rfl, .ref D, rfl, D, acc, rfl, .inl ⟨.inl (.inl hD), fun l nl => ⟨zl2, fun u nu => ?_⟩⟩⟩
      refine q _ u m (.ref l) es (((d6.trans v1).new nl).new nu) (.inl (.inl upd_same)) (Dp.same (same_upd nu) _ _ (Dp.new nl hacc)) ⟨m1, m6, by omega, by omega, fun r hr => ?_⟩
      rw [hl]; exact hp r hr
end
end Kq
namespace Kq
open PySem PySem.Spec PyProof.Rows
open L2 hiding CX0 E0 pass0 Fun fun_mk Fun.ok Fun.binds defArgs defBody defScope
open C8
/-! the law's tasks and letters -/
section
variable {P : Program} {w : World} {K : PySem.W.Frag} {mg : Str → Option Value} {base : Heap} {CW CR : Addr}
abbrev N_l_many : List Str := ["_law_rules_here", "_law_task_here", "_law_here", "_law_turn", "_law_rule", "_law_step_here", "_law_kind"]
theorem sc_l_many : FnScope N_l_many ["_law_rules_here", "_law_task_here"] (fnScope s_l_many) := fnScope_by (by decide +kernel)
abbrev N_l_task : List Str := ["_law_hand_here", "_law_rules_here", "_law_most", "_law_kind", "_law_fuel"]
theorem sc_l_task : FnScope N_l_task ["_law_hand_here", "_law_rules_here", "_law_most"] (fnScope s_l_task) := fnScope_by (by decide +kernel)
abbrev N_l_sent : List Str := ["_law_many_here", "_law_rules_here", "_law_house", "_law_task_here", "_law_step_here", "_law_kind"]
theorem sc_l_sent : FnScope N_l_sent ["_law_many_here", "_law_rules_here", "_law_house", "_law_task_here"] (fnScope s_l_sent) := fnScope_by (by decide +kernel)
/-- the block within which the inner list is made -/
def scE : Expr → Scope
  | .ListComp _ _ s _ => s
  | _ => fnScope s_l_many
def scS : Stmt → Scope
  | .For _ _ (.Assign _ e _ :: _) _ _ => scE e
  | _ => fnScope s_l_many
def scB : List Stmt → Scope
  | _ :: s :: _ => scS s
  | _ => fnScope s_l_many
abbrev SC_NESTED_l_many : Scope := relS (scB (fnBody s_l_many)) (fnScope s_l_many)
def spLMany (K : PySem.W.Frag) : Sp := fun vs H Q _ => ∃ (v : V) (t : Addr) (R : Rules) (k f : Nat), vs = [v, .ref t] ∧ Dp K H v (eR R) ∧ SqT K H t [.int (k : Int), .int (f : Int)] ∧ k < R.length ∧ R.length ≤ 6 ∧ (∀ r ∈ R, r.length ≤ 4 ∧ ∀ p ∈ r, p.2 < R.length) ∧ f ≤ 12 ∧
  ∀ H' n, Same H H' → (f = 0 → n = 1) → Q (.int n) H'
theorem c_l_many (T : Tx K mg CW CR) : Cal P w K mg base 1 "_law_many" (spLMany K) [] := by
  obtain ⟨f, fd, F, df⟩ := T.d_l_many.ex
  refine cal0 F (F.fn.binds df b_l_many) .nil sc_l_many (fun vs H Q E h => ?_) (fun cdv A outer s0 H vs Q E hr h => ?_)
  · obtain ⟨v, t, R, k, f, rfl, _⟩ := h; rfl
  · obtain ⟨v, t, R, k, f, rfl, hv, ht, hk, h6, hR, hf, q⟩ := h
    obtain ⟨a, xs, rfl, ha, hxs⟩ := tupD hv
    have hl : xs.length = R.length := by rw [DpAll.len hxs, List.length_map]
    have z := sizeLine_eq
    refine ⟨_, (pss_cons (ps_set (i := 2) sc_l_many.nd rfl (.inr rfl) (pe_lc (own := [("_law_rule", 4)]) (by rfl) sc_l_many.nd (kiTup K (pv 0)) (blkOk_by (N := N_l_many) (sc := fnScope s_l_many) (by decide +kernel)) (fun _ _ _ _ _ => (pgn 4 sc_l_many.nd)) (fun _ _ _ _ _ => pts_nil) (fun _ _ _ _ _ => pe_int)))
      (pss_cons (ps_for PassesOwn.never rfl (pi_range1 (by rfl) T.z_range (pa_cons (pe_ix (kixT K) (pv 1) pe_int (fun _ _ => rfl)) pa_nil)) (pgn 3 sc_l_many.nd)
        (pss_one (ps_set (i := 2) sc_l_many.nd rfl (.inr rfl) (pe_lc (own := [("_law_rule", 4)]) (by rfl) sc_l_many.nd (kiTup K (pv 0)) (blkOk_by (N := N_l_many) (sc := fnScope s_l_many) (by decide +kernel)) (fun _ _ _ _ _ => (pgn 4 sc_l_many.nd)) (fun _ _ _ _ _ => pts_nil) (fun _ _ _ _ _ => (pe_op op_add pe_int (pe_callB (ksum K) (by rfl) T.z_sum (by decide +kernel) (pa_cons (pe_lc (own := [("_law_step_here", 5), ("_law_kind", 6)]) (by rfl) sc_l_many.nd (kiTup K (pv 4)) (blkOk_by (N := N_l_many) (sc := SC_NESTED_l_many) (by decide +kernel)) (fun _ _ _ _ _ => (pgt K 2 (pgs_cons (pgn 5 sc_l_many.nd) (pgs_cons (pgn 6 sc_l_many.nd) pgs_nil)))) (fun _ _ _ _ _ => pts_nil) (fun _ _ _ _ _ => (pe_ix (kixL K) (pv 2) (pv 6) (fun _ _ => rfl)))) pa_nil))))))))
      (pss_one (ps_ret (pe_ix (kixL K) (pv 2) (pe_ix (kixT K) (pv 1) pe_int (fun _ _ => rfl)) (fun _ _ => rfl)))))), ?_⟩
    refine ⟨.ref a, rfl, a, rfl, ⟨xs, ha⟩, fun D nD => lc_tup (xs := xs) (PvM K H D R every fun _ => .int 1) (PvM.zero nD) (fun i H' _ h => SqT.same ha h.same) (fun i x H' hi hP => ?_) (fun H' hP => ?_)⟩
    · obtain ⟨r, hr, dr⟩ := item_of hxs hi
      exact ⟨rfl, yesT (hP.step nD (by omega) hr rfl (fun _ => rfl) (Same.refl _) (.int _))⟩
    · obtain ⟨s1, acc, hD, hacc⟩ := hP.done (by omega)
      rw [filter_every] at hacc
      rw [ints_of hacc] at hD
      refine ⟨.ref t, rfl, t, _, 1, .int (f : Int), rfl, rfl, SqT.same ht s1, atI_nat (j := 1) rfl, _, rfl, by omega, by omega, for_range (lo := 0) (n := ((f : Int)).toNat)
        (fun i σ H2 => ∃ y3 D ns, σ = [some (.ref a), some (.ref t), some (.ref D), y3, none, none, none] ∧ Same H H2 ∧ H2 D = some (.lst (ns.map V.int)) ∧ ns.length = R.length ∧ (i = 0 → ∀ n ∈ ns, n = 1))
        ⟨none, D, R.map fun _ => 1, rfl, s1, hD, List.length_map .., fun _ n hn => by obtain ⟨_, _, rfl⟩ := List.mem_map.mp hn; rfl⟩ (fun i σ H2 hi hP => ?_) (fun σ H2 hP => ?_)⟩
      · obtain ⟨y3, D, ns, rfl, s2, hD, hns, _⟩ := hP
        refine ⟨.ref a, rfl, a, rfl, ⟨xs, SqT.same ha s2⟩, fun D2 nD2 => lc_tup (xs := xs) (PvM K H2 D2 R every fun r => .int (1 + (r.map fun p => (ns[p.2]?).getD 0).sum)) (PvM.zero nD2) (fun i H' _ h => SqT.same ha (s2.trans h.same)) (fun i x H3 hi hP => ?_) (fun H3 hP => ?_)⟩
        · obtain ⟨r, hr, dr⟩ := item_of hxs hi
          have s3 := hP.same
          obtain ⟨b, ys, rfl, hb, hys, hyl⟩ := tasksD (Dp.same (s2.trans s3) _ _ dr)
          have okr := hR r (List.mem_of_getElem? hr)
          refine ⟨rfl, yesT ⟨.ref b, rfl, b, rfl, ⟨ys, hb⟩, fun D3 nD3 => lc_tup (xs := ys) (PvM K H3 D3 r every fun p => .int ((ns[p.2]?).getD 0)) (PvM.zero nD3) (fun i H' _ h => SqT.same hb h.same) (fun i x H4 hi hP4 => ?_) (fun H4 hP4 => ?_)⟩⟩
          · obtain ⟨p, hp, dp⟩ := item_of hys hi
            obtain ⟨u, rfl, hu⟩ := pairD (Dp.same hP4.same _ _ dp)
            have hpl := okr.2 p (List.mem_of_getElem? hp)
            obtain ⟨n, hn⟩ : ∃ n, ns[p.2]? = some n := ⟨_, List.getElem?_eq_getElem (by omega)⟩
            refine ⟨u, _, rfl, hu, rfl, _, _, rfl, _, _, rfl, rfl, rfl, yesT ?_⟩
            refine ⟨.ref D, rfl, .int (p.2 : Int), rfl, D, _, (p.2 : Int), .int n, rfl, rfl, .inl (.inl (hP4.same _ _ (s3 _ _ hD))), atI_nat (by rw [List.getElem?_map, hn]; rfl), ?_⟩
            refine hP4.step nD3 (by omega) hp rfl (fun _ => rfl) (Same.refl _) ?_
            rw [hn]; exact .int _
          · obtain ⟨s4, acc4, hD4, hacc4⟩ := hP4.done (by omega)
            rw [filter_every] at hacc4
            rw [ints_of hacc4] at hD4
            refine ⟨D3, _, rfl, .inl (.inl hD4), _, _, rfl, rfl, ?_⟩
            exact hP.step nD2 (by omega) hr rfl (fun _ => rfl) s4 (.int _)
        · obtain ⟨s3, acc3, hD3, hacc3⟩ := hP.done (by omega)
          rw [filter_every] at hacc3
          rw [ints_of hacc3] at hD3
          exact ⟨_, D2, _, rfl, s2.trans s3, hD3, List.length_map .., fun e => by omega⟩
      · obtain ⟨y3, D, ns, rfl, s2, hD, hns, h1⟩ := hP
        obtain ⟨n, hn⟩ : ∃ n, ns[k]? = some n := ⟨_, List.getElem?_eq_getElem (by omega)⟩
        refine ⟨.ref D, rfl, .ref t, rfl, t, _, 0, .int (k : Int), rfl, rfl, SqT.same ht s2, atI_nat (j := 0) rfl, D, _, (k : Int), .int n, rfl, rfl, .inl (.inl hD), atI_nat (by rw [List.getElem?_map, hn]; rfl), q _ n s2 fun e => ?_⟩
        exact h1 (by omega) n (List.mem_of_getElem? hn)
/-- _law_task -/
def spLTask (K : PySem.W.Frag) : Sp := fun vs H Q _ => ∃ (a c : Addr) (v : V) (m : Nat) (R : Rules), vs = [.ref a, v, .int 24] ∧ Hand H a c ∧ Dp K H v (eR R) ∧ okRules m R ∧ ∀ H' u t, Drew a c H H' → Dp K H' u (eK t) → okTask R t → Q u H'
theorem c_l_task (T : Tx K mg CW CR) : Cal P w K mg base 3 "_law_task" (spLTask K) [] := by
  have c_l_draw := c_l_draw (P := P) (w := w) (base := base) T
  have c_l_any := c_l_any (P := P) (w := w) (base := base) T
  have c_l_many := c_l_many (P := P) (w := w) (base := base) T
  obtain ⟨f, fd, F, df⟩ := T.d_l_task.ex
  refine cal0 F (F.fn.binds df b_l_task) .nil sc_l_task (fun vs H Q E h => ?_) (fun cdv A outer s0 H vs Q E hr h => ?_)
  · obtain ⟨a, c, v, m, R, rfl, _⟩ := h; rfl
  · obtain ⟨a, c, v, m, R, rfl, ha, hv, ⟨o1, o2, o3, o4, o5⟩, q⟩ := h
    obtain ⟨b, xs, rfl, hb, hxs⟩ := tupD (id hv)
    have hl : xs.length = R.length := by rw [DpAll.len hxs, List.length_map]
    refine ⟨_, (pss_cons (ps_par (i := 3) (j := 4) (by rfl) sc_l_task.nd rfl rfl (by decide) rfl rfl (pa_cons (pe_c c_l_draw hr (by decide) (by rfl) (pa_cons (pv 0) (pa_cons (pe_callB (klen K) (by rfl) T.z_len (by decide +kernel) (pa_cons (pv 1) pa_nil)) pa_nil))) (pa_cons (pe_c c_l_any hr (by decide) (by rfl) (pa_cons (pv 0) (pa_cons (pe_lst (pa_cons pe_int (pa_cons pe_int (pa_cons pe_int (pa_cons pe_int (pa_cons pe_int (pa_cons pe_int (pa_cons pe_int pa_nil)))))))) pa_nil))) pa_nil)) (by rfl))
      (pss_cons (ps_while PassesOwn.never (pt_cmpR op_gt (pe_c c_l_many hr (by decide) (by rfl) (pa_cons (pv 1) (pa_cons (pe_tup (pa_cons (pv 3) (pa_cons (pv 4) pa_nil))) pa_nil))) (pv 2) (nomark _))
        (pss_one (ps_set (i := 4) sc_l_task.nd rfl (.inl rfl) (pe_op op_sub (pv 4) pe_int))))
      (pss_one (ps_ret (pe_tup (pa_cons (pv 3) (pa_cons (pv 4) pa_nil))))))), ?_⟩
    refine ⟨.ref a, rfl, .ref b, rfl, b, xs, rfl, .inr hb, a, c, R.length, (by rw [hl]; rfl), ha, o3, by omega, fun H1 k d1 hk => ?_⟩
    refine ⟨.ref a, rfl, zlN (by decide), fun p np => ?_⟩
    have d2 := d1.new (o := .lst [.int 0, .int 1, .int 2, .int 2, .int 3, .int 4, .int 6]) np
    refine ⟨a, c, p, _, rfl, d2.hand, upd_same, (d1.hand.fresh np).1, by decide, by decide, fun H2 x d3 hx => ?_⟩
    obtain ⟨g, rfl, g6⟩ : ∃ m : Nat, x = .int (m : Int) ∧ m ≤ 6 := by
      simp only [List.mem_cons, List.not_mem_nil, or_false] at hx
      rcases hx with rfl | rfl | rfl | rfl | rfl | rfl | rfl
      · exact ⟨0, rfl, by decide⟩
      · exact ⟨1, rfl, by decide⟩
      · exact ⟨2, rfl, by decide⟩
      · exact ⟨2, rfl, by decide⟩
      · exact ⟨3, rfl, by decide⟩
      · exact ⟨4, rfl, by decide⟩
      · exact ⟨6, rfl, by decide⟩
    have d4 := d2.trans d3
    refine ⟨_, _, rfl, fun n σ H3 => n ≤ 6 ∧ σ = [some (.ref a), some (.ref b), some (.int 24), some (.int (k : Int)), some (.int (n : Int))] ∧ Drew a c H H3, ⟨g, g6, rfl, d4⟩, fun n σ H3 hW => ?_⟩
    obtain ⟨n6, rfl, d5⟩ := hW
    refine ⟨.ref b, rfl, .int (k : Int), rfl, .int (n : Int), rfl, zl2, fun t nt => ?_⟩
    have d6 := d5.new (o := .tup [.int (k : Int), .int (n : Int)]) nt
    refine ⟨.ref b, t, R, k, n, rfl, Drew.data ha d6 (flat_R R) hv, .inl (.inl upd_same), hk, by omega, fun r hr => ⟨by have := (o5 r hr).1; omega, fun p hp => ((o5 r hr).2 p hp).2⟩, by omega, fun H4 l e1 h1 => ?_⟩
    have d7 := d6.same e1
    refine ⟨_, rfl, _, _, rfl, rfl, _, rfl, ite2 (fun e => ?_) (fun e => ?_)⟩
    · have hn : n ≠ 0 := fun z => by
        have e' : (24 : Int) < l := of_decide_eq_true e
        rw [h1 z] at e'
        exact absurd e' (by decide)
      refine ⟨fun σ' H' => (n - 1) ≤ 6 ∧ σ' = [some (.ref a), some (.ref b), some (.int 24), some (.int (k : Int)), some (.int ((n - 1 : Nat) : Int))] ∧ Drew a c H H', fun σ' H' h => ⟨n - 1, by omega, h⟩, ?_⟩
      refine ⟨.int (n : Int), rfl, _, _, rfl, rfl, by omega, ?_, d7⟩
      have : ((n - 1 : Nat) : Int) = (n : Int) - 1 := by omega
      rw [this]; rfl
    · exact ⟨.int (k : Int), rfl, .int (n : Int), rfl, zl2, fun u nu => q _ _ (k, n) (d7.new nu) (pairMk (.inl (.inl upd_same))) ⟨hk, by show n ≤ 12; omega⟩⟩
/-- _law_sent -/
def spLSent (K : PySem.W.Frag) : Sp := fun vs H Q _ => ∃ (m : Nat) (R : Rules) (rv : V) (h : Nat) (v : V) (t : Task), vs = [.int (m : Int), rv, .int (h : Int), v] ∧ Dp K H rv (eR R) ∧ okRules m R ∧ Dp K H v (eK t) ∧ okTask R t ∧
  ∀ H' p ys, Same H H' → H p = none → H' p = some (.lst ys) → DpAll K H' ys ((sentL m R h t).map eL) → Q (.ref p) H'
theorem c_l_sent (T : Tx K mg CW CR) : Cal P w K mg base 1 "_law_sent" (spLSent K) [] := by
  obtain ⟨f, fd, F, df⟩ := T.d_l_sent.ex
  refine cal0 F (F.fn.binds df b_l_sent) .nil sc_l_sent (fun vs H Q E h => ?_) (fun cdv A outer s0 H vs Q E hr h => ?_)
  · obtain ⟨m, R, rv, h, v, t, rfl, _⟩ := h; rfl
  · obtain ⟨m, R, rv, h, v, t, rfl, hrv, okR, hv, ok, q⟩ := h
    obtain ⟨b, rfl, hb⟩ := pairD hv
    obtain ⟨c, xs, rfl, hc, hxs⟩ := tupD hrv
    obtain ⟨o1, o2⟩ := ok
    obtain ⟨ok1, ok2, ok3, ok4, ok5⟩ := okR
    have z := sizeLine_eq
    refine ⟨_, (pss_cons (ps_if (pt_cmpR op_eq (pe_ix (kixT K) (pv 3) pe_int (fun _ _ => rfl)) pe_int (nomark _))
        (pss_one (ps_ret (pe_lst pa_nil))) pss_nil)
      (pss_one (ps_ret (pe_lc (own := [("_law_step_here", 4), ("_law_kind", 5)]) (by rfl) sc_l_sent.nd (kiTup K (pe_ix (kixT K) (pv 1) (pe_ix (kixT K) (pv 3) pe_int (fun _ _ => rfl)) (fun _ _ => rfl))) (blkOk_by (N := N_l_sent) (sc := fnScope s_l_sent) (by decide +kernel)) (fun _ _ _ _ _ => (pgt K 2 (pgs_cons (pgn 4 sc_l_sent.nd) (pgs_cons (pgn 5 sc_l_sent.nd) pgs_nil)))) (fun _ _ _ _ _ => pts_nil) (fun _ _ _ _ _ => (pe_tup (pa_cons (pe_op op_mod (pe_callTy call_int1 (by rfl) T.z_int (by decide +kernel) (pa_cons (pe_op op_add (pv 2) (pv 4)) pa_nil)) (pv 0)) (pa_cons (pe_tup (pa_cons (pv 5) (pa_cons (pe_op op_sub (pe_ix (kixT K) (pv 3) pe_int (fun _ _ => rfl)) pe_int) pa_nil))) pa_nil)))))))), ?_⟩
    refine ⟨.ref b, rfl, b, _, 1, .int (t.2 : Int), rfl, rfl, hb, atI_nat (j := 1) rfl, rfl, _, rfl, ite2 (fun e => ?_) (fun e => ?_)⟩
    · have e0 : t.2 = 0 := by
        have := V.int.inj (of_decide_eq_true e)
        omega
      refine ⟨zl0, fun p np => q _ _ [] (same_upd np) np upd_same ?_⟩
      have : sentL m R h t = [] := by unfold sentL; rw [if_pos e0]
      rw [this]
      exact .nil
    · have e0 : t.2 ≠ 0 := fun z => e (by rw [z]; rfl)
      have hrr : R[t.1]? = some (R[t.1]'o1) := List.getElem?_eq_getElem o1
      obtain ⟨v, hv1, dv⟩ := item_at hxs hrr
      obtain ⟨y, ys, rfl, hy, hys, hyl⟩ := tasksD dv
      have okr := ok5 _ (List.mem_of_getElem? hrr)
      generalize hrdef : R[t.1]'o1 = r at hrr dv hys hyl okr
      have hsent : sentL m R h t = r.map fun p => ((h + p.1) % m, (p.2, t.2 - 1)) := by
        unfold sentL
        rw [if_neg e0, hrr]; rfl
      refine ⟨.ref c, rfl, .ref b, rfl, b, _, 0, .int (t.1 : Int), rfl, rfl, hb, atI_nat (j := 0) rfl, c, xs, (t.1 : Int), .ref y, rfl, rfl, hc, atI_nat hv1, y, rfl, ⟨ys, hy⟩, fun D nD =>
        lc_tup (xs := ys) (PvM K H D r every fun p => eL ((h + p.1) % m, (p.2, t.2 - 1))) (PvM.zero nD) (fun i H' _ h => SqT.same hy h.same) (fun i x H' hi hP => ?_) (fun H' hP => ?_)⟩
      · obtain ⟨p, hp, dp⟩ := item_of hys hi
        obtain ⟨u, rfl, hu⟩ := pairD (Dp.same hP.same _ _ dp)
        refine ⟨u, _, rfl, hu, rfl, _, _, rfl, _, _, rfl, rfl, rfl, yesT ?_⟩
        refine ⟨.int (h : Int), rfl, .int (p.1 : Int), rfl, _, _, rfl, rfl, .inl ⟨_, rfl, .int (m : Int), rfl, _, _, rfl, rfl, (by show (0 : Int) < m; omega), ?_⟩⟩
        refine ⟨.int (p.2 : Int), rfl, .ref b, rfl, b, _, 1, .int (t.2 : Int), rfl, rfl, SqT.same hb hP.same, atI_nat (j := 1) rfl, _, _, rfl, rfl, zl2, fun p1 np1 => ⟨zl2, fun p2 np2 => ?_⟩⟩
        have e1 := same_upd (o := .tup [.int (p.2 : Int), .int ((t.2 : Int) - 1)]) np1
        refine hP.step nD (by omega) hp rfl (fun _ => rfl) (e1.trans (same_upd np2)) (Dp.new np2 ?_)
        have c1 : (t.2 : Int) - 1 = ((t.2 - 1 : Nat) : Int) := by omega
        refine .cons (show Dp K _ (.int (((h : Int) + (p.1 : Int)) % (m : Int))) (.int (((h + p.1) % m : Nat) : Int)) from by rw [modc]; exact .int _) (.cons (pairMk (.inl (.inl ?_))) .nil)
        rw [upd_same]
        show some (HO.tup [.int (p.2 : Int), .int ((t.2 : Int) - 1)]) = some (HO.tup [.int (p.2 : Int), .int ((t.2 - 1 : Nat) : Int)])
        rw [c1]
      · obtain ⟨s1, acc, hD, hacc⟩ := hP.done (by omega)
        rw [filter_every] at hacc
        refine q _ D acc s1 nD hD ?_
        rw [hsent, List.map_map]
        exact hacc
end
end Kq
namespace Kq
open PySem PySem.Spec PyProof.Rows
open L2 hiding CX0 E0 pass0 Fun fun_mk Fun.ok Fun.binds defArgs defBody defScope
open C8
/-! the law's own standings: bags and a dict; how they stand in the heap -/
abbrev LW := List ((Nat × Nat) × List Task)
abbrev LS := List (List Task) × LW
def getW (d : LW) (k : Nat × Nat) : Option (List Task) := (d.find? fun e => decide (e.1 = k)).map (·.2)
def valW (d : LW) (k : Nat × Nat) : List Task := (getW d k).getD []
def putW (d : LW) (k : Nat × Nat) (ts : List Task) : LW := if (d.any fun e => decide (e.1 = k)) = true then d.map (fun e => if e.1 = k then (e.1, ts) else e) else d ++ [(k, ts)]
def putAll (h : Nat) (ls : List (Nat × Task)) (d : LW) : LW := ls.foldl (fun d l => putW d (h, l.1) (valW d (h, l.1) ++ [l.2])) d
def stepDo (m : Nat) (R : Rules) (L : LS) (h : Nat) : Option LS := match L.1[h]? with
  | some (t :: r) => some (L.1.set h r, putAll h (sentL m R h t) L.2)
  | _ => none
def stepHear (L : LS) (h f : Nat) : Option LS := match valW L.2 (f, h) with
  | t :: r => some (L.1.set h (((L.1[h]?).getD []) ++ [t]), putW L.2 (f, h) r)
  | [] => none
def stepL (m : Nat) (R : Rules) (L : LS) : Ev → Option LS
  | .doo h => stepDo m R L h
  | .hear h f => stepHear L h f
  | .say _ _ => some L
def keysW (d : LW) : List (Nat × Nat) := (d.map (·.1)).mergeSort (PySem.W.dataLe false eK)
def toldW (d : LW) : List Way := ((keysW d).filter fun k => decide (0 < (valW d k).length)).map fun k => (k.1, k.2, valW d k)
def told (L : LS) : PS := (L.1, toldW L.2)
def quietL (L : LS) : Bool := decide ((L.1.map fun b => (b.length : Int)).sum + (L.2.map fun e => ((valW L.2 e.1).length : Int)).sum = 0)
theorem putAll_snoc {h : Nat} {ls : List (Nat × Task)} {l : Nat × Task} {d : LW} : putAll h (ls ++ [l]) d = putW (putAll h ls d) (h, l.1) (valW (putAll h ls d) (h, l.1) ++ [l.2]) := by
  unfold putAll; rw [List.foldl_append]; rfl
/-- what holds of a law's standing -/
structure GoodL (m : Nat) (R : Rules) (n : Nat) (L : LS) : Prop where
  len : L.1.length = m
  bags : ∀ b ∈ L.1, b.length ≤ n ∧ ∀ t ∈ b, okTask R t
  size : L.2.length ≤ n
  ways : ∀ e ∈ L.2, e.1.1 < m ∧ e.1.2 < m ∧ e.2.length ≤ n ∧ ∀ t ∈ e.2, okTask R t
  nod : (L.2.map (·.1)).Nodup
/-! pairs of lists -/
section
variable {α β : Type} {F G : α → β → Prop}
theorem pd_keep : ∀ {l1 : List α} {l2 : List β}, Paired F l1 l2 → (∀ a ∈ l1, ∀ b, F a b → G a b) → Paired G l1 l2
  | _, _, .nil, _ => .nil
  | _, _, .cons h t, k => .cons (k _ List.mem_cons_self _ h) (pd_keep t fun a ha => k a (List.mem_cons_of_mem _ ha))
theorem pd_getR : ∀ {l1 : List α} {l2 : List β} {i : Nat} {a : α}, Paired F l1 l2 → l1[i]? = some a → ∃ b, l2[i]? = some b ∧ F a b
  | _, _, _, _, .nil, e => by simp at e
  | _, _, 0, _, .cons h t, e => by simp at e; subst e; exact ⟨_, rfl, h⟩
  | _, _, i + 1, _, .cons h t, e => by
    obtain ⟨b, h1, h2⟩ := pd_getR t (i := i) (by simpa using e)
    exact ⟨b, by simpa using h1, h2⟩
theorem pd_getL : ∀ {l1 : List α} {l2 : List β} {i : Nat} {b : β}, Paired F l1 l2 → l2[i]? = some b → ∃ a, l1[i]? = some a ∧ F a b
  | _, _, _, _, .nil, e => by simp at e
  | _, _, 0, _, .cons h t, e => by simp at e; subst e; exact ⟨_, rfl, h⟩
  | _, _, i + 1, _, .cons h t, e => by
    obtain ⟨b, h1, h2⟩ := pd_getL t (i := i) (by simpa using e)
    exact ⟨b, by simpa using h1, h2⟩
theorem pd_len : ∀ {l1 : List α} {l2 : List β}, Paired F l1 l2 → l1.length = l2.length
  | _, _, .nil => rfl
  | _, _, .cons _ t => by rw [List.length_cons, List.length_cons, pd_len t]
theorem pd_alter [DecidableEq α] {a : α} {b' : β} : ∀ {l1 : List α} {l2 : List β} {i : Nat}, Paired F l1 l2 → l1.Nodup → l1[i]? = some a → (∀ x ∈ l1, ∀ b, x ≠ a → F x b → G x b) → G a b' → Paired G l1 (l2.set i b')
  | _, _, _, .nil, _, e, _, _ => by simp at e
  | x :: l1, y :: l2, 0, .cons h t, nd, e, k, g => by
    simp at e; subst e
    rw [List.nodup_cons] at nd
    exact .cons g (pd_keep t fun z hz b hb => k z (List.mem_cons_of_mem _ hz) b (fun q => nd.1 (q ▸ hz)) hb)
  | x :: l1, y :: l2, i + 1, .cons h t, nd, e, k, g => by
    rw [List.nodup_cons] at nd
    have e' : l1[i]? = some a := by simpa using e
    exact .cons (k x List.mem_cons_self y (fun q => nd.1 (q ▸ List.mem_of_getElem? e')) h) (pd_alter t nd.2 e' (fun z hz => k z (List.mem_cons_of_mem _ hz)) g)
theorem pd_snoc {l1 : List α} {l2 : List β} {i : Nat} {a : α} {b : β} (h : Paired F l1 (l2.take i)) (e : l2[i]? = some b) (f : F a b) : Paired F (l1 ++ [a]) (l2.take (i + 1)) := by
  rw [List.take_add_one, e]
  exact Paired.snoc h f
theorem pd_app : ∀ {l1 k1 : List α} {l2 k2 : List β}, Paired F l1 l2 → Paired F k1 k2 → Paired F (l1 ++ k1) (l2 ++ k2)
  | _, _, _, _, .nil, k => k
  | _, _, _, _, .cons h t, k => .cons h (pd_app t k)
end
/-! in the heap -/
section
variable {K : PySem.W.Frag} {H H1 H' : Hp}
def BagP (K : PySem.W.Frag) (H : Hp) (p : Addr) (ts : List Task) : Prop := ∃ xs, H p = some (.lst xs) ∧ DpAll K H xs (ts.map eK)
def EntP (K : PySem.W.Frag) (H : Hp) (kv : List L2.Key × V) (e : (Nat × Nat) × List Task) : Prop := kv.1 = keyN e.1 ∧ Dp K H kv.2 (eT e.2)
theorem BagP.keep {p : Addr} {ts : List Task} (h : BagP K H p ts) (kt : KT K H H') (e : ∀ o, H p = some o → H' p = some o) : BagP K H' p ts := by
  obtain ⟨xs, h1, h2⟩ := h
  exact ⟨xs, e _ h1, DpAll.kt kt _ _ (flatDs_map _ flat_K _) h2⟩
theorem EntP.keep {kv : List L2.Key × V} {e : (Nat × Nat) × List Task} (h : EntP K H kv e) (kt : KT K H H') : EntP K H' kv e := ⟨h.1, Dp.kt kt _ _ (flat_T _) h.2⟩
def IsLS (K : PySem.W.Frag) (H : Hp) (v : V) (L : LS) (fp : List Addr) : Prop := ∃ (t pb pd : Addr) (ps : List Addr) (kvs : List (List L2.Key × V)), fp = pb :: pd :: ps ∧ v = .ref t ∧ SqT K H t [.ref pb, .ref pd] ∧
  H pb = some (.lst (ps.map V.ref)) ∧ Paired (BagP K H) ps L.1 ∧ H pd = some (.dT kvs) ∧ Paired (EntP K H) kvs L.2
theorem IsLS.keep {v : V} {L : LS} {fp : List Addr} (h : IsLS K H v L fp) (kt : KT K H H') (e : ∀ b ∈ fp, ∀ o, H b = some o → H' b = some o) : IsLS K H' v L fp := by
  obtain ⟨t, pb, pd, ps, kvs, rfl, rfl, h1, h2, h3, h4, h5⟩ := h
  exact ⟨t, pb, pd, ps, kvs, rfl, rfl, kt _ _ h1, e _ (by simp) _ h2, pd_keep h3 fun a ha b hb => hb.keep kt (e a (by simp [ha])), e _ (by simp) _ h4, pd_keep h5 fun a ha b hb => hb.keep kt⟩
theorem IsLS.same {v : V} {L : LS} {fp : List Addr} (h : IsLS K H v L fp) (e : Same H H') : IsLS K H' v L fp := h.keep (Same.kt e) fun b _ o q => e b o q
theorem IsLS.drew {v : V} {L : LS} {fp : List Addr} {a c : Addr} (h : IsLS K H v L fp) (ha : Hand H a c) (hf : a ∉ fp) (d : Drew a c H H') : IsLS K H' v L fp :=
  h.keep (ha.kt d.but) fun b hb o q => d.but b o (fun z => hf (z ▸ hb)) q
theorem IsLS.upd {v : V} {L : LS} {fp : List Addr} {D : Addr} {xs ys : List V} (h : IsLS K H v L fp) (hD : H D = some (.lst xs)) (hf : D ∉ fp) : IsLS K (upd H D (.lst ys)) v L fp :=
  h.keep (kt_list hD) fun b hb o q => by rw [upd_ne (fun z : b = D => hf (z ▸ hb))]; exact q
theorem kt_dict {p : Addr} {kvs ws : List (List L2.Key × V)} (h : H p = some (.dT kvs)) : KT K H (L2.upd H p (.dT ws)) := fun a zs q => by
  rcases q with (q | ⟨o, q⟩) | q
  · exact .inl (.inl (by rw [upd_ne (ne_of q h (fun z => by cases z))]; exact q))
  · exact .inl (.inr ⟨o, by rw [upd_ne (ne_of q h (fun z => by cases z))]; exact q⟩)
  · exact .inr q
/-- looking up, putting -/
theorem keyN_iff {a b : Nat × Nat} : keyN a = keyN b ↔ a = b := ⟨keyN_inj, fun e => e ▸ rfl⟩
theorem val_rel {k : Nat × Nat} : ∀ {kvs : List (List L2.Key × V)} {d : LW}, Paired (EntP K H) kvs d → (∃ v ts, valV kvs (keyN k) = some v ∧ getW d k = some ts ∧ Dp K H v (eT ts)) ∨ (valV kvs (keyN k) = none ∧ getW d k = none)
  | _, _, .nil => .inr ⟨rfl, rfl⟩
  | kv :: kvs, e :: d, .cons h t => by
    unfold valV getW
    rw [List.find?_cons, List.find?_cons, h.1]
    by_cases q : e.1 = k
    · rw [decide_eq_true (keyN_iff.mpr q), decide_eq_true q]
      exact .inl ⟨_, _, rfl, rfl, h.2⟩
    · rw [decide_eq_false (fun z => q (keyN_iff.mp z)), decide_eq_false q]
      exact val_rel t
theorem any_rel {k : Nat × Nat} : ∀ {kvs : List (List L2.Key × V)} {d : LW}, Paired (EntP K H) kvs d → (kvs.any fun kv => decide (kv.1 = keyN k)) = d.any fun e => decide (e.1 = k)
  | _, _, .nil => rfl
  | kv :: kvs, e :: d, .cons h t => by
    rw [List.any_cons, List.any_cons, any_rel t, h.1]
    congr 1
    exact decide_eq_decide.mpr keyN_iff
theorem map_rel {k : Nat × Nat} {v : V} {ts : List Task} (dv : Dp K H v (eT ts)) : ∀ {kvs : List (List L2.Key × V)} {d : LW}, Paired (EntP K H) kvs d →
    Paired (EntP K H) (kvs.map fun kv => if kv.1 = keyN k then (kv.1, v) else kv) (d.map fun e => if e.1 = k then (e.1, ts) else e)
  | _, _, .nil => .nil
  | kv :: kvs, e :: d, .cons h t => by
    refine .cons ?_ (map_rel dv t)
    show EntP K H (if kv.1 = keyN k then (kv.1, v) else kv) (if e.1 = k then (e.1, ts) else e)
    by_cases q : e.1 = k
    · rw [if_pos q, if_pos (by rw [h.1, q])]
      exact ⟨h.1, dv⟩
    · rw [if_neg q, if_neg (by rw [h.1]; exact fun z => q (keyN_iff.mp z))]
      exact h
theorem put_rel {k : Nat × Nat} {v : V} {ts : List Task} (dv : Dp K H v (eT ts)) {kvs : List (List L2.Key × V)} {d : LW} (h : Paired (EntP K H) kvs d) : Paired (EntP K H) (putK kvs (keyN k) v) (putW d k ts) := by
  unfold putK putW
  rw [any_rel h]
  split
  · exact map_rel dv h
  · exact h.snoc ⟨rfl, dv⟩
theorem keys_rel {kvs : List (List L2.Key × V)} {d : LW} (h : Paired (EntP K H) kvs d) : kvs.map (·.1) = (d.map (·.1)).map keyN := by
  induction h with
  | nil => rfl
  | cons h t ih => rw [List.map_cons, List.map_cons, List.map_cons, ih, h.1]
end
theorem getW_mem {k : Nat × Nat} : ∀ {d : LW}, k ∈ d.map (·.1) → ∃ ts, getW d k = some ts ∧ (k, ts) ∈ d
  | [], h => by cases h
  | e :: d, h => by
    unfold getW
    rw [List.find?_cons]
    by_cases q : e.1 = k
    · rw [decide_eq_true q]
      exact ⟨e.2, rfl, by rw [← q]; exact List.mem_cons_self⟩
    · rw [decide_eq_false q]
      rw [List.map_cons, List.mem_cons] at h
      rcases h with h | h
      · exact absurd h.symm q
      · obtain ⟨ts, h1, h2⟩ := getW_mem h
        exact ⟨ts, h1, List.mem_cons_of_mem _ h2⟩
theorem valW_of {d : LW} {k : Nat × Nat} : valW d k = [] ∨ (k, valW d k) ∈ d := by
  by_cases h : k ∈ d.map (·.1)
  · obtain ⟨ts, h1, h2⟩ := getW_mem h
    unfold valW
    rw [h1]
    exact .inr h2
  · left
    unfold valW getW
    have : (d.find? fun e => decide (e.1 = k)) = none := by
      rw [List.find?_eq_none]
      intro e he q
      exact h (List.mem_map.mpr ⟨e, he, of_decide_eq_true q⟩)
    rw [this]; rfl
theorem putW_mem {d : LW} {k : Nat × Nat} {ts : List Task} {e : (Nat × Nat) × List Task} (h : e ∈ putW d k ts) : e ∈ d ∨ e = (k, ts) := by
  unfold putW at h
  split at h
  · obtain ⟨x, hx, q⟩ := List.mem_map.mp h
    by_cases z : x.1 = k
    · rw [if_pos z] at q
      right; rw [← q, z]
    · rw [if_neg z] at q
      left; rw [← q]; exact hx
  · rcases List.mem_append.mp h with h | h
    · exact .inl h
    · exact .inr (List.mem_singleton.mp h)
theorem putW_len (d : LW) (k : Nat × Nat) (ts : List Task) : (putW d k ts).length ≤ d.length + 1 := by
  unfold putW
  split
  · rw [List.length_map]; omega
  · rw [List.length_append]; exact Nat.le_refl _
theorem putW_keys {d : LW} {k : Nat × Nat} {ts : List Task} : (putW d k ts).map (·.1) = if (d.any fun e => decide (e.1 = k)) = true then d.map (·.1) else d.map (·.1) ++ [k] := by
  unfold putW
  split
  · rw [List.map_map]
    apply List.map_congr_left
    intro e _
    show (if e.1 = k then (e.1, ts) else e).1 = e.1
    split <;> rfl
  · rw [List.map_append]; rfl
theorem putW_nod {d : LW} {k : Nat × Nat} {ts : List Task} (h : (d.map (·.1)).Nodup) : ((putW d k ts).map (·.1)).Nodup := by
  rw [putW_keys]
  split
  · exact h
  · rename_i q
    rw [List.nodup_append]
    refine ⟨h, by simp, fun a ha b hb => ?_⟩
    rw [List.mem_singleton] at hb
    subst hb
    intro e
    obtain ⟨x, hx, hk⟩ := List.mem_map.mp ha
    exact q (List.any_eq_true.mpr ⟨x, hx, decide_eq_true (hk.trans e)⟩)
/-- good stays good -/
structure GoodW (m : Nat) (R : Rules) (n : Nat) (d : LW) : Prop where
  size : d.length ≤ n
  ways : ∀ e ∈ d, e.1.1 < m ∧ e.1.2 < m ∧ e.2.length ≤ n ∧ ∀ t ∈ e.2, okTask R t
  nod : (d.map (·.1)).Nodup
theorem GoodL.w {m n : Nat} {R : Rules} {L : LS} (g : GoodL m R n L) : GoodW m R n L.2 := ⟨g.size, g.ways, g.nod⟩
theorem GoodW.mono {m n k : Nat} {R : Rules} {d : LW} (g : GoodW m R n d) (h : n ≤ k) : GoodW m R k d :=
  ⟨Nat.le_trans g.size h, fun e he => let ⟨a, b, c, x⟩ := g.ways e he; ⟨a, b, Nat.le_trans c h, x⟩, g.nod⟩
theorem GoodW.val {m n : Nat} {R : Rules} {d : LW} (g : GoodW m R n d) (k : Nat × Nat) : (valW d k).length ≤ n ∧ ∀ t ∈ valW d k, okTask R t := by
  rcases valW_of (d := d) (k := k) with h | h
  · rw [h]; exact ⟨Nat.zero_le _, fun _ h => nomatch h⟩
  · exact ⟨(g.ways _ h).2.2.1, (g.ways _ h).2.2.2⟩
theorem GoodW.put {m n k : Nat} {R : Rules} {d : LW} {e : Nat × Nat} {ts : List Task} (g : GoodW m R n d) (h : n + 1 ≤ k) (he : e.1 < m ∧ e.2 < m) (hl : ts.length ≤ k) (ht : ∀ t ∈ ts, okTask R t) : GoodW m R k (putW d e ts) := by
  refine ⟨Nat.le_trans (putW_len d e ts) (by have := g.size; omega), fun x hx => ?_, putW_nod g.nod⟩
  rcases putW_mem hx with hx | rfl
  · obtain ⟨a, b, c, y⟩ := g.ways x hx
    exact ⟨a, b, by omega, y⟩
  · exact ⟨he.1, he.2, hl, ht⟩
theorem goodW_all {m n h : Nat} {R : Rules} (hh : h < m) : ∀ {ls : List (Nat × Task)} {d : LW}, GoodW m R n d → (∀ l ∈ ls, l.1 < m ∧ okTask R l.2) → GoodW m R (n + ls.length) (putAll h ls d)
  | [], d, g, _ => g
  | l :: ls, d, g, hl => by
    have h1 := hl l List.mem_cons_self
    have g1 : GoodW m R (n + 1) (putW d (h, l.1) (valW d (h, l.1) ++ [l.2])) := g.put (Nat.le_refl _) ⟨hh, h1.1⟩ (by rw [List.length_append]; have := (g.val (h, l.1)).1; show _ + 1 ≤ _; omega) fun t ht => by
      rcases List.mem_append.mp ht with ht | ht
      · exact (g.val _).2 t ht
      · rw [List.mem_singleton] at ht
        rw [ht]; exact h1.2
    have g2 := goodW_all hh (ls := ls) g1 fun l' hl' => hl l' (List.mem_cons_of_mem _ hl')
    rw [List.length_cons, show n + (ls.length + 1) = n + 1 + ls.length by omega]
    exact g2
theorem GoodL.mono {m n k : Nat} {R : Rules} {L : LS} (g : GoodL m R n L) (h : n ≤ k) : GoodL m R k L :=
  ⟨g.len, fun b hb => ⟨Nat.le_trans (g.bags b hb).1 h, (g.bags b hb).2⟩, (g.w.mono h).size, (g.w.mono h).ways, g.nod⟩
theorem goodL_step {m n : Nat} {R : Rules} {L L' : LS} (ok : okRules m R) (g : GoodL m R n L) {e : Ev} (oe : okEv m e) (h : stepL m R L e = some L') : GoodL m R (n + 3) L' := by
  cases e with
  | doo x =>
    have h : stepDo m R L x = some L' := h
    unfold stepDo at h
    split at h
    · rename_i t r hb
      cases h
      have hm : t :: r ∈ L.1 := List.mem_of_getElem? hb
      have gw := goodW_all (h := x) oe g.w (sentL_ok ok x ((g.bags _ hm).2 t List.mem_cons_self))
      have gw3 := gw.mono (k := n + 3) (by have := sentL_len ok x t; omega)
      refine ⟨by rw [List.length_set]; exact g.len, fun b hb2 => ?_, gw3.size, gw3.ways, gw3.nod⟩
      rcases mem_set hb2 with hb2 | rfl
      · exact ⟨by have := (g.bags b hb2).1; omega, (g.bags b hb2).2⟩
      · have h1 := g.bags _ hm
        rw [List.length_cons] at h1
        exact ⟨by omega, fun t2 h2 => h1.2 t2 (List.mem_cons_of_mem _ h2)⟩
    · cases h
  | hear x f =>
    have h : stepHear L x f = some L' := h
    unfold stepHear at h
    split at h
    · rename_i t r hb
      cases h
      have hv := g.w.val (f, x)
      rw [hb, List.length_cons] at hv
      have gw := g.w.put (k := n + 3) (e := (f, x)) (ts := r) (by omega) ⟨oe.2, oe.1⟩ (by omega) fun t2 h2 => hv.2 t2 (List.mem_cons_of_mem _ h2)
      refine ⟨by rw [List.length_set]; exact g.len, fun b hb2 => ?_, gw.size, gw.ways, gw.nod⟩
      rcases mem_set hb2 with hb2 | rfl
      · exact ⟨by have := (g.bags b hb2).1; omega, (g.bags b hb2).2⟩
      · have old : ((L.1[x]?).getD []).length ≤ n ∧ ∀ t ∈ ((L.1[x]?).getD []), okTask R t := by
          cases q : L.1[x]? with
          | none => exact ⟨Nat.zero_le _, fun _ h => nomatch h⟩
          | some b => exact g.bags b (List.mem_of_getElem? q)
        refine ⟨by rw [List.length_append]; show _ + 1 ≤ _; omega, fun t2 h2 => ?_⟩
        rcases List.mem_append.mp h2 with h2 | h2
        · exact old.2 t2 h2
        · rw [List.mem_singleton] at h2
          rw [h2]; exact hv.2 t List.mem_cons_self
    · cases h
  | say x y => cases h; exact g.mono (by omega)
def firstL (m : Nat) (g : List Task) : LS := (g :: List.replicate (m - 1) [], [])
theorem goodL_first {m n : Nat} {R : Rules} {g : List Task} (ok : okRules m R) (hg : ∀ t ∈ g, okTask R t) (hn : g.length ≤ n) : GoodL m R n (firstL m g) := by
  have h1 := ok.1
  refine ⟨?_, fun b hb => ?_, Nat.zero_le _, fun e he => (nomatch he), List.nodup_nil⟩
  · show (g :: List.replicate (m - 1) []).length = m
    rw [List.length_cons, List.length_replicate]; omega
  · rcases List.mem_cons.mp hb with rfl | hb
    · exact ⟨hn, hg⟩
    · rw [(List.mem_replicate.mp hb).2]; exact ⟨Nat.zero_le _, fun t ht => (nomatch ht)⟩
end Kq
namespace Kq
open PySem PySem.Spec PyProof.Rows
open L2 hiding CX0 E0 pass0 Fun fun_mk Fun.ok Fun.binds defArgs defBody defScope
open C8
/-! the law's first standing and its steps -/
section
variable {P : Program} {w : World} {K : PySem.W.Frag} {mg : Str → Option Value} {base : Heap} {CW CR : Addr}
abbrev N_l_first : List Str := ["_law_many_here", "_law_given", "_law_house"]
theorem sc_l_first : FnScope N_l_first ["_law_many_here", "_law_given"] (fnScope s_l_first) := fnScope_by (by decide +kernel)
abbrev N_l_step : List Str := ["_law_many_here", "_law_rules_here", "_law_standing", "_law_event_here", "_law_bags", "_law_ways", "_law_house", "_law_to", "_law_task_here", "_law_tasks", "_law_bag"]
theorem sc_l_step : FnScope N_l_step ["_law_many_here", "_law_rules_here", "_law_standing", "_law_event_here"] (fnScope s_l_step) := fnScope_by (by decide +kernel)
def spLFirst (K : PySem.W.Frag) : Sp := fun vs H Q _ => ∃ (m : Nat) (v : V) (g : List Task), vs = [.int (m : Int), v] ∧ Dp K H v (eT g) ∧ 1 ≤ m ∧ m ≤ 6 ∧
  ∀ H' u fp, Same H H' → IsLS K H' u (firstL m g) fp → (∀ b ∈ fp, H b = none) → Q u H'
theorem c_l_first (T : Tx K mg CW CR) : Cal P w K mg base 1 "_law_first" (spLFirst K) [] := by
  obtain ⟨f, fd, F, df⟩ := T.d_l_first.ex
  refine cal0 F (F.fn.binds df b_l_first) .nil sc_l_first (fun vs H Q E h => ?_) (fun cdv A outer s0 H vs Q E hr h => ?_)
  · obtain ⟨m, v, g, rfl, _⟩ := h; rfl
  · obtain ⟨m, v, g, rfl, hv, m1, m6, q⟩ := h
    obtain ⟨a, xs, rfl, ha, hxs, hl⟩ := tasksD hv
    have z := sizeLine_eq
    refine ⟨_, (pss_one (ps_ret (pe_tup (pa_cons (pe_op op_cat (pe_lst (pa_cons (pe_callTy (klstO K) (by rfl) T.z_list (by decide +kernel) (pa_cons (pv 1) pa_nil)) pa_nil)) (pe_lc (own := [("_law_house", 2)]) (by rfl) sc_l_first.nd (pi_range1 (by rfl) T.z_range (pa_cons (pe_op op_sub (pv 0) pe_int) pa_nil)) (blkOk_by (N := N_l_first) (sc := fnScope s_l_first) (by decide +kernel)) (fun _ _ _ _ _ => (pgn 2 sc_l_first.nd)) (fun _ _ _ _ _ => pts_nil) (fun _ _ _ _ _ => (pe_lst pa_nil)))) (pa_cons pe_dnewT pa_nil))))), ?_⟩
    refine ⟨.ref a, rfl, a, xs, rfl, .inr ha, fun b nb => ⟨zl1, fun c nc => ?_⟩⟩
    have e1 := same_upd (o := .lst xs) nb
    have e2 := same_upd (o := .lst [V.ref b]) nc
    have e12 := e1.trans e2
    have hb : upd (upd H b (.lst xs)) c (.lst [V.ref b]) b = some (.lst xs) := e2 _ _ upd_same
    have hc : upd (upd H b (.lst xs)) c (.lst [V.ref b]) c = some (.lst [V.ref b]) := upd_same
    generalize upd (upd H b (.lst xs)) c (.lst [V.ref b]) = H2 at hb hc e12
    refine ⟨.int (m : Int), rfl, _, _, rfl, rfl, (m : Int) - 1, rfl, by omega, by omega, fun D nD => lc_range (lo := 0) (n := ((m : Int) - 1).toNat)
      (fun i H3 => Same H2 H3 ∧ ∃ ps : List Addr, H3 D = some (.lst (ps.map V.ref)) ∧ ps.length = i ∧ ∀ p ∈ ps, H3 p = some (.lst []) ∧ H2 p = none) ⟨same_upd nD, [], upd_same, rfl, fun p h => (nomatch h)⟩ (fun i H3 hi hP => ?_) (fun H3 hP => ?_)⟩
    · obtain ⟨s3, ps, hD, hpl, hps⟩ := hP
      refine ⟨rfl, yesT ⟨zl0, fun p np => ⟨ps.map V.ref, (same_upd np) _ _ hD, by rw [List.length_map]; omega, fun b o hb => ?_, ps ++ [p], ?_, by rw [List.length_append, hpl]; rfl, fun x hx => ?_⟩⟩⟩
      · rw [upd_ne (ne_of_none hb nD)]
        exact (same_upd np) _ _ (s3 _ _ hb)
      · rw [upd_same, List.map_append]; rfl
      · have hpD : p ≠ D := fun z => by rw [z, hD] at np; cases np
        rcases List.mem_append.mp hx with hx | hx
        · obtain ⟨h1, h2⟩ := hps x hx
          refine ⟨?_, h2⟩
          rw [upd_ne (fun z : x = D => by rw [z, hD] at h1; cases ps with
            | nil => cases hx
            | cons y r => cases h1)]
          exact (same_upd np) _ _ h1
        · rw [List.mem_singleton] at hx
          subst hx
          refine ⟨by rw [upd_ne hpD]; exact upd_same, s3.free np⟩
    · obtain ⟨s3, ps, hD, hpl, hps⟩ := hP
      refine ⟨c, D, _, _, rfl, rfl, s3 _ _ hc, hD, by rw [List.length_map]; simp only [List.length_cons, List.length_nil]; omega, fun pb npb pd npd => ⟨zl2, fun t nt => ?_⟩⟩
      have e4 := same_upd (o := .lst ([V.ref b] ++ ps.map V.ref)) npb
      have e5 := same_upd (o := .dT []) npd
      have e6 := same_upd (o := .tup [V.ref pb, V.ref pd]) nt
      have e56 := e5.trans e6
      have e46 := e4.trans e56
      have all := e12.trans (s3.trans e46)
      have hm : ps.length = m - 1 := by omega
      refine q _ _ (pb :: pd :: b :: ps) all ⟨t, pb, pd, b :: ps, [], rfl, rfl, .inl (.inl upd_same), e56 _ _ upd_same, .cons ⟨xs, e46 _ _ (s3 _ _ hb), DpAll.same all _ _ hxs⟩ ?_, e6 _ _ upd_same, .nil⟩ (fun x hx => ?_)
      · have rep : ∀ (n : Nat) (qs : List Addr), qs.length = n → (∀ x ∈ qs, BagP K (upd (upd (upd H3 pb (.lst ([V.ref b] ++ ps.map V.ref))) pd (.dT [])) t (.tup [V.ref pb, V.ref pd])) x []) → Paired (BagP K (upd (upd (upd H3 pb (.lst ([V.ref b] ++ ps.map V.ref))) pd (.dT [])) t (.tup [V.ref pb, V.ref pd])  )) qs (List.replicate n []) := fun n => by
          induction n with
          | zero => intro qs hl _; rw [List.eq_nil_of_length_eq_zero hl]; exact .nil
          | succ n ih =>
            intro qs hl hp
            cases qs with
            | nil => cases hl
            | cons y r => exact .cons (hp y List.mem_cons_self) (ih r (by simpa using hl) fun x hx => hp x (List.mem_cons_of_mem _ hx))
        exact rep _ _ hm fun x hx => ⟨[], e46 _ _ (hps x hx).1, .nil⟩
      · simp only [List.mem_cons] at hx
        rcases hx with rfl | rfl | rfl | hx
        · exact (e12.trans s3).free npb
        · exact (e12.trans (s3.trans e4)).free npd
        · exact nb
        · exact e12.free (hps x hx).2
/-! within a step: the copies -/
def InStep (K : PySem.W.Frag) (H H2 : Hp) (D W : Addr) (ps : List Addr) (L : LS) : Prop := Same H H2 ∧ (H D = none ∧ H W = none ∧ (∀ p ∈ ps, H p = none) ∧ ps.Nodup ∧ D ∉ ps) ∧ H2 D = some (.lst (ps.map V.ref)) ∧ Paired (BagP K H2) ps L.1 ∧
  ∃ kvs, H2 W = some (.dT kvs) ∧ Paired (EntP K H2) kvs L.2
section
variable {H H2 H3 : Hp} {D W : Addr} {ps : List Addr} {L : LS}
theorem InStep.same (h : InStep K H H2 D W ps L) (e : Same H2 H3) : InStep K H H3 D W ps L := by
  obtain ⟨h1, h2, h3, h4, kvs, h5, h6⟩ := h
  exact ⟨h1.trans e, h2, e _ _ h3, pd_keep h4 fun a _ b hb => hb.keep (Same.kt e) fun o q => e _ _ q, kvs, e _ _ h5, pd_keep h6 fun a _ b hb => hb.keep (Same.kt e)⟩
theorem InStep.bag (h : InStep K H H2 D W ps L) {i : Nat} {b : Addr} {xs ys : List V} {ts : List Task} (hb : ps[i]? = some b) (hx : H2 b = some (.lst xs)) (hy : DpAll K H2 ys (ts.map eK)) : InStep K H (upd H2 b (.lst ys)) D W ps (L.1.set i ts, L.2) := by
  obtain ⟨h1, ⟨a1, a2, a3, a4, a5⟩, h3, h4, kvs, h5, h6⟩ := h
  have hm := List.mem_of_getElem? hb
  have kt := kt_list (K := K) (ys := ys) hx
  refine ⟨fun c o q => by rw [upd_ne (ne_of_none q (a3 b hm))]; exact h1 _ _ q, ⟨a1, a2, a3, a4, a5⟩, by rw [upd_ne (fun z : D = b => a5 (z ▸ hm))]; exact h3, ?_, kvs, by rw [upd_ne (ne_of h5 hx fun z => nomatch z)]; exact h5, pd_keep h6 fun a _ b hb => hb.keep kt⟩
  exact pd_alter h4 a4 hb (fun x _ y hxb hy => hy.keep kt fun o q => by rw [upd_ne hxb]; exact q) ⟨ys, upd_same, DpAll.kt kt _ _ (flatDs_map _ flat_K _) hy⟩
theorem InStep.put (h : InStep K H H2 D W ps L) {kvs : List (List L2.Key × V)} (hW : H2 W = some (.dT kvs)) {k : Nat × Nat} {v : V} {ts : List Task} (dv : Dp K H2 v (eT ts)) : InStep K H (upd H2 W (.dT (putK kvs (keyN k) v))) D W ps (L.1, putW L.2 k ts) := by
  obtain ⟨h1, ⟨a1, a2, a3, a4, a5⟩, h3, h4, kvs', h5, h6⟩ := h
  rw [hW] at h5
  cases h5
  have kt := kt_dict (K := K) (ws := putK kvs (keyN k) v) hW
  refine ⟨fun c o q => by rw [upd_ne (ne_of_none q a2)]; exact h1 _ _ q, ⟨a1, a2, a3, a4, a5⟩, by rw [upd_ne (ne_of h3 hW fun z => nomatch z)]; exact h3, pd_keep h4 fun a _ b hb => ?_, _, upd_same, pd_keep (put_rel dv h6) fun a _ b hb => hb.keep kt⟩
  obtain ⟨xs, q1, q2⟩ := hb
  exact ⟨xs, by rw [upd_ne (ne_of q1 hW fun z => nomatch z)]; exact q1, DpAll.kt kt _ _ (flatDs_map _ flat_K _) q2⟩
theorem get_tasks {kvs : List (List L2.Key × V)} {d : LW} {z : V} (hr : Paired (EntP K H) kvs d) (hz : Dp K H z (eT [])) (k : Nat × Nat) : ∃ a xs, (valV kvs (keyN k)).getD z = .ref a ∧ SqT K H a xs ∧ DpAll K H xs ((valW d k).map eK) ∧ xs.length = (valW d k).length := by
  rcases val_rel (k := k) hr with ⟨v, ts, h1, h2, h3⟩ | ⟨h1, h2⟩
  · obtain ⟨a, xs, rfl, q1, q2, q3⟩ := tasksD h3
    refine ⟨a, xs, by rw [h1]; rfl, q1, ?_, ?_⟩ <;> (unfold valW; rw [h2]; assumption)
  · obtain ⟨a, xs, rfl, q1, q2, q3⟩ := tasksD hz
    refine ⟨a, xs, by rw [h1]; rfl, q1, ?_, ?_⟩ <;> (unfold valW; rw [h2]; assumption)
end
def OptL (K : PySem.W.Frag) (H H' : Hp) (u : V) : Option LS → Prop
  | none => u = .non
  | some L => ∃ fp, IsLS K H' u L fp ∧ ∀ b ∈ fp, H b = none
def spLStep (K : PySem.W.Frag) : Sp := fun vs H Q _ => ∃ (m n : Nat) (R : Rules) (rv v : V) (e : Addr) (L : LS) (fp : List Addr) (ev : Ev), vs = [.int (m : Int), rv, v, .ref e] ∧ Dp K H rv (eR R) ∧ okRules m R ∧ IsLS K H v L fp ∧ GoodL m R n L ∧ n ≤ 900 ∧ Dp K H (.ref e) (eE ev) ∧ okEv m ev ∧
  ∀ H' u, Same H H' → OptL K H H' u (stepL m R L ev) → Q u H'
theorem c_l_step (T : Tx K mg CW CR) : Cal P w K mg base 2 "_law_step" (spLStep K) [] := by
  have c_l_sent := c_l_sent (P := P) (w := w) (base := base) T
  obtain ⟨f, fd, F, df⟩ := T.d_l_step.ex
  refine cal0 F (F.fn.binds df b_l_step) .nil sc_l_step (fun vs H Q E h => ?_) (fun cdv A outer s0 H vs Q E hr h => ?_)
  · obtain ⟨m, n, R, rv, v, e, L, fp, ev, rfl, _⟩ := h; rfl
  · obtain ⟨m, n, R, rv, v, e, L, fp, ev, rfl, hrv, okR, hL, g, hn, he, oe, q⟩ := h
    have hu := hu_of hr
    obtain ⟨t, pb, pd, ps0, kvs0, rfl, rfl, ht, hpb, hbags, hpd, hways⟩ := hL
    have z := sizeLine_eq
    have hlen0 : ps0.length = m := by rw [pd_len hbags, g.len]
    have hm6 := okR.2.1
    refine ⟨_, (pss_cons (ps_par (i := 4) (j := 5) (by rfl) sc_l_step.nd rfl rfl (by decide) rfl rfl (pa_cons (pe_lc (own := [("_law_bag", 10)]) (by rfl) sc_l_step.nd (kiList K (pe_ix (kixT K) (pv 2) pe_int (fun _ _ => rfl))) (blkOk_by (N := N_l_step) (sc := fnScope s_l_step) (by decide +kernel)) (fun _ _ _ _ _ => (pgn 10 sc_l_step.nd)) (fun _ _ _ _ _ => pts_nil) (fun _ _ _ _ _ => (pe_callTy (klstO K) (by rfl) T.z_list (by decide +kernel) (pa_cons (pv 10) pa_nil)))) (pa_cons (pe_callTy (kdict hr) (by rfl) T.z_dict (by decide +kernel) (pa_cons (pe_ix (kixT K) (pv 2) pe_int (fun _ _ => rfl)) pa_nil)) pa_nil)) (by rfl))
      (pss_cons (ps_set (i := 6) sc_l_step.nd rfl (.inl rfl) (pe_ix (kixT K) (pv 3) pe_int (fun _ _ => rfl)))
      (pss_cut (ps_if (pt_cmpR op_eq (pe_ix (kixT K) (pv 3) pe_int (fun _ _ => rfl)) pe_str (nomark _))
        (pss_cons (ps_if (pt_cmpR op_eq (pe_callB (klen K) (by rfl) T.z_len (by decide +kernel) (pa_cons (pe_ix (kixL K) (pv 4) (pv 6) (fun _ _ => rfl)) pa_nil)) pe_int (nomark _))
          (pss_one (ps_ret pe_non)) pss_nil)
        (pss_one (ps_for PassesOwn.never rfl (kiList K (pe_c c_l_sent hr (by decide) (by rfl) (pa_cons (pv 0) (pa_cons (pv 1) (pa_cons (pv 6) (pa_cons (pe_bm PySem.F.plainAttrs_list PySem.F.slot_list_pop PySem.F.type_list_pop mt_popAt (pe_ix (kixL K) (pv 4) (pv 6) (fun _ _ => rfl)) (pa_cons pe_int pa_nil)) pa_nil)))))) (pgt K 2 (pgs_cons (pgn 7 sc_l_step.nd) (pgs_cons (pgn 8 sc_l_step.nd) pgs_nil)))
          (pss_one (ps_dput hu (pv 5) (pe_tup (pa_cons (pv 6) (pa_cons (pv 7) pa_nil))) (pe_op (kcat K) (pe_dget2 hu (pv 5) (pe_tup (pa_cons (pv 6) (pa_cons (pv 7) pa_nil))) (pe_tup pa_nil) ⟨rfl, rfl, rfl, rfl⟩) (pe_tup (pa_cons (pv 8) pa_nil))) rfl))))) pss_nil)
      (pss_cut (ps_if (pt_cmpR op_eq (pe_ix (kixT K) (pv 3) pe_int (fun _ _ => rfl)) pe_str (nomark _))
        (pss_cons (ps_set (i := 9) sc_l_step.nd rfl (.inl rfl) (pe_dget2 hu (pv 5) (pe_tup (pa_cons (pe_ix (kixT K) (pv 3) pe_int (fun _ _ => rfl)) (pa_cons (pv 6) pa_nil))) (pe_tup pa_nil) ⟨rfl, rfl, rfl, rfl⟩))
        (pss_cons (ps_if (pt_cmpR op_eq (pe_callB (klen K) (by rfl) T.z_len (by decide +kernel) (pa_cons (pv 9) pa_nil)) pe_int (nomark _))
          (pss_one (ps_ret pe_non)) pss_nil)
        (pss_cons (ps_expr (pe_bm PySem.F.plainAttrs_list PySem.F.slot_list_append PySem.F.type_list_append mt_append (pe_ix (kixL K) (pv 4) (pv 6) (fun _ _ => rfl)) (pa_cons (pe_ix (kixT K) (pv 9) pe_int (fun _ _ => rfl)) pa_nil)))
        (pss_one (ps_dput hu (pv 5) (pe_tup (pa_cons (pe_ix (kixT K) (pv 3) pe_int (fun _ _ => rfl)) (pa_cons (pv 6) pa_nil))) (pe_slice (kslT K) (pv 9) (po_some pe_int) po_none) rfl))))) pss_nil)
      (pss_one (ps_ret (pe_tup (pa_cons (pv 4) (pa_cons (pv 5) pa_nil))))))))), ?_⟩
    refine ⟨.ref t, rfl, t, _, 0, .ref pb, rfl, rfl, ht, atI_nat (j := 0) rfl, pb, rfl, ⟨_, .inl (.inl hpb)⟩, fun D nD => lc_list (xs := ps0.map V.ref)
      (fun i H2 => Same H H2 ∧ ∃ ps : List Addr, H2 D = some (.lst (ps.map V.ref)) ∧ (∀ p ∈ ps, H p = none) ∧ ps.Nodup ∧ D ∉ ps ∧ ps.length = i ∧ Paired (BagP K H2) ps (L.1.take i)) ⟨same_upd nD, [], upd_same, fun p h => (nomatch h), List.nodup_nil, List.not_mem_nil, rfl, .nil⟩
      (fun i H2 _ hP => .inl (.inl (hP.1 _ _ hpb))) (fun i x H2 hi hP => ?_) (fun H2 hP => ?_)⟩
    · obtain ⟨s2, ps, hD, hps, nd, hDn, hpl, hpr⟩ := hP
      rw [List.getElem?_map] at hi
      cases hq : ps0[i]? with
      | none => rw [hq] at hi; cases hi
      | some b =>
        rw [hq] at hi
        cases hi
        obtain ⟨ts, hts, xs, hb, dxs⟩ := pd_getR hbags hq
        have hil := (List.getElem?_eq_some_iff.mp hq).1
        refine ⟨rfl, yesT ⟨.ref b, rfl, b, xs, rfl, .inl (.inl (.inl (s2 _ _ hb))), fun p np => ⟨ps.map V.ref, (same_upd np) _ _ hD, by rw [List.length_map]; omega, fun c o hc => ?_, ps ++ [p], ?_, fun x hx => ?_, ?_, fun hx => ?_, by rw [List.length_append, hpl]; rfl, ?_⟩⟩⟩
        · rw [upd_ne (ne_of_none hc nD)]
          exact (same_upd np) _ _ (s2 _ _ hc)
        · rw [upd_same, List.map_append]; rfl
        · rcases List.mem_append.mp hx with hx | hx
          · exact hps x hx
          · rw [List.mem_singleton] at hx
            subst hx; exact s2.free np
        · rw [List.nodup_append]
          refine ⟨nd, by simp, fun x hx y hy => ?_⟩
          rw [List.mem_singleton] at hy
          subst hy
          intro z
          subst z
          obtain ⟨j, hj⟩ := List.mem_iff_getElem?.mp hx
          obtain ⟨ts2, _, xs2, hb2, _⟩ := pd_getR hpr hj
          rw [hb2] at np; cases np
        · rcases List.mem_append.mp hx with hx | hx
          · exact hDn hx
          · rw [List.mem_singleton] at hx
            rw [hx, np] at hD; cases hD
        · have s3 : Same H2 (upd H2 p (.lst xs)) := same_upd np
          have hpD : p ≠ D := fun z => by rw [z, hD] at np; cases np
          have kt : KT K H2 (upd (upd H2 p (.lst xs)) D (.lst (ps.map V.ref ++ [V.ref p]))) := fun a zs qz => kt_list (K := K) (s3 _ _ hD) _ _ (Same.kt s3 _ _ qz)
          refine pd_snoc (pd_keep hpr fun a ha b hb => hb.keep kt fun o qo => ?_) hts ⟨xs, by rw [upd_ne hpD]; exact upd_same, DpAll.kt kt _ _ (flatDs_map _ flat_K _) (DpAll.same s2 _ _ dxs)⟩
          rw [upd_ne (fun z : a = D => hDn (z ▸ ha))]
          exact s3 _ _ qo
    · obtain ⟨s2, ps, hD, hps, nd, hDn, hpl, hpr⟩ := hP
      rw [List.take_of_length_le (by rw [List.length_map, hlen0, g.len]; exact Nat.le_refl _)] at hpr
      refine ⟨.ref t, rfl, t, _, 1, .ref pd, rfl, rfl, SqT.same ht s2, atI_nat (j := 1) rfl, pd, kvs0, L.2.map (·.1), rfl, .inl (s2 _ _ hpd), keys_rel hways, fun k hk => ?_, by rw [pd_len hways]; have := g.size; omega, fun W nW => ⟨.ref D, .ref W, rfl, ?_⟩⟩
      · obtain ⟨x, hx, rfl⟩ := List.mem_map.mp hk
        have := g.ways x hx
        omega
      have s3 : Same H2 (upd H2 W (.dT kvs0)) := same_upd nW
      have st : InStep K H (upd H2 W (.dT kvs0)) D W ps L := ⟨s2.trans s3, ⟨nD, s2.free nW, hps, nd, hDn⟩, s3 _ _ hD, pd_keep hpr fun a _ b hb => hb.keep (Same.kt s3) fun o qo => s3 _ _ qo, kvs0, upd_same, pd_keep hways fun a _ b hb => hb.keep (Same.kt (s2.trans s3))⟩
      generalize upd H2 W (.dT kvs0) = H3 at st s3
      clear s3 hpr hD hpl nW s2
      have fin : ∀ {H' : Hp} {L' : LS} {t' : Addr}, InStep K H H' D W ps L' → H' t' = none → stepL m R L ev = some L' → Q (.ref t') (upd H' t' (.tup [V.ref D, V.ref W])) := fun {H' L' t'} s nt hs => by
        have s' := s.same (same_upd (o := .tup [V.ref D, V.ref W]) nt)
        obtain ⟨h1, ⟨a1, a2, a3, a4, a5⟩, h3, h4, kvs, h5, h6⟩ := s'
        refine q _ _ h1 ?_
        rw [hs]
        refine ⟨_, ⟨t', D, W, ps, kvs, rfl, rfl, .inl (.inl upd_same), h3, h4, h5, h6⟩, fun b hb => ?_⟩
        simp only [List.mem_cons] at hb
        rcases hb with rfl | rfl | hb
        · exact a1
        · exact a2
        · exact a3 b hb
      obtain ⟨te, ee, hte⟩ := eventD he
      cases ee
      have bagAt : ∀ {H' : Hp} {L' : LS} {h : Nat}, InStep K H H' D W ps L' → L'.1.length = m → h < m → ∃ b xs ts, ps[h]? = some b ∧ L'.1[h]? = some ts ∧ H' b = some (.lst xs) ∧ DpAll K H' xs (ts.map eK) ∧ xs.length = ts.length := fun {H' L' h} s hl hh => by
        obtain ⟨h1, _, h3, h4, _⟩ := s
        obtain ⟨ts, hts⟩ : ∃ ts, L'.1[h]? = some ts := ⟨_, List.getElem?_eq_getElem (by omega)⟩
        obtain ⟨b, hb, xs, q1, q2⟩ := pd_getL h4 hts
        exact ⟨b, xs, ts, hb, hts, q1, q2, by rw [DpAll.len q2, List.length_map]⟩
      have refAt : ∀ {h : Nat} {b : Addr}, ps[h]? = some b → (ps.map V.ref)[h]? = some (.ref b) := fun {h b} e => by rw [List.getElem?_map, e]; rfl
      cases ev with
      | doo h =>
        refine ⟨.ref e, rfl, e, _, 1, .int (h : Int), rfl, rfl, SqT.same hte st.1, atI_nat (j := 1) rfl, ?_⟩
        refine ⟨fun σ H4 => ∃ y7 y8 L1, σ = [some (.int (m : Int)), some rv, some (.ref t), some (.ref e), some (.ref D), some (.ref W), some (.int (h : Int)), y7, y8, none, none] ∧ InStep K H H4 D W ps L1 ∧ stepDo m R L h = some L1, ?_, fun σ H4 hM => ?_⟩
        · refine ⟨.ref e, rfl, e, _, 0, .str "do", rfl, rfl, SqT.same hte st.1, atI_nat (j := 0) rfl, rfl, _, rfl, iteT' (decide_eq_true rfl) ?_⟩
          obtain ⟨b, xs, ts, hb, hts, hbx, hxs, hxl⟩ := bagAt st g.len oe
          have hD := st.2.2.1
          refine ⟨.ref D, rfl, .int (h : Int), rfl, D, _, (h : Int), .ref b, rfl, rfl, .inl (.inl hD), atI_nat (refAt hb), b, xs, rfl, .inl (.inl (.inl hbx)), rfl, _, rfl, ite2 (fun c => ?_) (fun c => ?_)⟩
          · have c' := V.int.inj (of_decide_eq_true c)
            have : ts = [] := List.eq_nil_of_length_eq_zero (by omega)
            subst this
            refine q _ _ st.1 ?_
            have : stepL m R L (.doo h) = none := by
              show stepDo m R L h = none
              unfold stepDo; rw [hts]
            rw [this]; rfl
          · cases ts with
            | nil => exact absurd (decide_eq_true (by rw [hxl]; rfl)) c
            | cons tk r =>
              obtain ⟨x, xr, rfl, dx, dxr⟩ := consD hxs
              have hmem := g.bags _ (List.mem_of_getElem? hts)
              have otk := hmem.2 tk List.mem_cons_self
              have st2 := st.bag (ys := xr) (ts := r) hb hbx dxr
              have kt := kt_list (K := K) (ys := xr) hbx
              have hsl := sentL_len okR h tk
              have hok := sentL_ok okR h otk
              refine ⟨.int (m : Int), rfl, rv, rfl, .int (h : Int), rfl, .ref D, rfl, .int (h : Int), rfl, D, _, (h : Int), .ref b, rfl, rfl, .inl (.inl hD), atI_nat (refAt hb), .inl ⟨rfl, _, .inl (.inl hbx)⟩, b, _, 0, 0, x, rfl, rfl, hbx, by decide, by decide, (ixN_seq (show ixN (x :: xr).length 0 = some 0 by unfold ixN; rw [if_pos (by decide), if_pos (by rw [List.length_cons]; omega)]; rfl)).1, rfl, ?_⟩
              refine ⟨m, R, rv, h, x, tk, rfl, Dp.kt kt _ _ (flat_R R) (Dp.same st.1 _ _ hrv), okR, Dp.kt kt _ _ (flat_K tk) dx, otk, fun H5 p ys e5 np hp hys => ⟨p, rfl, ⟨ys, .inl (.inl hp)⟩, for_list (xs := ys)
                (fun i σ H6 => ∃ y7 y8, σ = [some (.int (m : Int)), some rv, some (.ref t), some (.ref e), some (.ref D), some (.ref W), some (.int (h : Int)), y7, y8, none, none] ∧ InStep K H H6 D W ps (L.1.set h r, putAll h ((sentL m R h tk).take i) L.2) ∧ H6 p = some (.lst ys) ∧ DpAll K H6 ys ((sentL m R h tk).map eL))
                ⟨none, none, rfl, st2.same e5, hp, hys⟩ (fun i σ H6 _ hP => ?_) (fun i x σ H6 hi hP => ?_) (fun σ H6 hP => ?_)⟩⟩
              · obtain ⟨_, _, _, _, h1, _⟩ := hP
                exact .inl (.inl h1)
              · obtain ⟨y7, y8, rfl, s6, hp6, hys6⟩ := hP
                obtain ⟨l, hl, dl⟩ := item_of hys6 hi
                obtain ⟨u, uv, rfl, hu6, duv⟩ := lettD dl
                have hil := (List.getElem?_eq_some_iff.mp hl).1
                have ol := hok l (List.mem_of_getElem? hl)
                obtain ⟨kvs, hW, hrel⟩ := s6.2.2.2.2
                have gw := goodW_all (h := h) oe g.w (ls := (sentL m R h tk).take i) fun l' hl' => hok l' (List.mem_of_mem_take hl')
                rw [List.length_take] at gw
                have gv := (gw.val (h, l.1)).1
                have gs := gw.size
                refine ⟨u, _, rfl, hu6, rfl, _, _, rfl, _, _, rfl, rfl, ?_⟩
                refine ⟨.ref W, rfl, W, rfl, .inr ⟨kvs, .inl hW⟩, .int (h : Int), rfl, .int (l.1 : Int), rfl, zl2, fun k1 nk1 => ⟨zl0, fun k0 nk0 => ⟨valV kvs (keyN (h, l.1)), DGet.t (by exact (same_upd nk0) _ _ ((same_upd nk1) _ _ hW)) ((same_upd nk0) _ _ upd_same), ?_⟩⟩⟩
                have s7 : Same H6 (upd (upd H6 k1 (.tup [V.int (h : Int), V.int (l.1 : Int)])) k0 (.tup [])) := (same_upd nk1).trans (same_upd nk0)
                obtain ⟨a0, xs0, e0, q0, d0, l0⟩ := get_tasks (pd_keep hrel fun a _ b hb => hb.keep (Same.kt s7)) (z := .ref k0) (Dp.new nk0 .nil) (h, l.1)
                rw [e0]
                refine ⟨uv, rfl, zl1, fun p1 np1 => ?_⟩
                have s8 := same_upd (o := .tup [uv]) np1
                refine catA_mk (SqT.same q0 s8) (.inl (.inl upd_same)) (by rw [l0]; show (valW (putAll h ((sentL m R h tk).take i) L.2) (h, l.1)).length + 1 ≤ _; omega) fun H9 p2 e9 q2 => ?_
                have s9 := s7.trans (s8.trans e9)
                refine ⟨.ref W, rfl, .int (h : Int), rfl, .int (l.1 : Int), rfl, zl2, fun k2 nk2 => ?_⟩
                have s10 := s9.trans (same_upd (o := .tup [V.int (h : Int), V.int (l.1 : Int)]) nk2)
                have hW10 := s10 _ _ hW
                refine ⟨W, _, rfl, DPut.t (k := keyN (h, l.1)) hW10 upd_same (by rw [pd_len hrel]; show (putAll h ((sentL m R h tk).take i) L.2).length < _; omega), some (.int (l.1 : Int)), some uv, rfl, ?_, ?_, ?_⟩
                · have st6 := (s6.same s10).put (k := (h, l.1)) (v := .ref p2) (ts := valW (putAll h ((sentL m R h tk).take i) L.2) (h, l.1) ++ [l.2]) hW10 ?_
                  · rw [List.take_add_one, hl]
                    show InStep K H _ D W ps (_, putAll h (_ ++ [l]) L.2)
                    rw [putAll_snoc]
                    exact st6
                  · refine .tup (SqT.same q2 (same_upd nk2)) ?_
                    rw [List.map_append]
                    exact DpAll.app (DpAll.same (s8.trans (e9.trans (same_upd nk2))) _ _ d0) (.cons (Dp.same s10 _ _ duv) .nil)
                · rw [upd_ne (ne_of (s10 _ _ hp6) hW10 fun z => nomatch z)]
                  exact s10 _ _ hp6
                · exact DpAll.kt (kt_dict hW10) _ _ (flatDs_map _ flat_L _) (DpAll.same s10 _ _ hys6)
              · obtain ⟨y7, y8, rfl, s6, hp6, hys6⟩ := hP
                rw [List.take_of_length_le (by rw [DpAll.len hys6, List.length_map]; exact Nat.le_refl _)] at s6
                refine ⟨y7, y8, _, rfl, s6, ?_⟩
                unfold stepDo; rw [hts]
        · obtain ⟨y7, y8, L1, rfl, s4, hs⟩ := hM
          refine ⟨fun σ H5 => σ = [some (.int (m : Int)), some rv, some (.ref t), some (.ref e), some (.ref D), some (.ref W), some (.int (h : Int)), y7, y8, none, none] ∧ InStep K H H5 D W ps L1, ?_, fun σ H5 hM => ?_⟩
          · exact ⟨.ref e, rfl, e, _, 0, .str "do", rfl, rfl, SqT.same hte s4.1, atI_nat (j := 0) rfl, rfl, _, rfl, iteF' (by decide +kernel) ⟨rfl, s4⟩⟩
          · obtain ⟨rfl, s5⟩ := hM
            exact ⟨.ref D, rfl, .ref W, rfl, zl2, fun t' nt => fin s5 nt hs⟩
      | hear h f =>
        refine ⟨.ref e, rfl, e, _, 1, .int (h : Int), rfl, rfl, SqT.same hte st.1, atI_nat (j := 1) rfl, ?_⟩
        refine ⟨fun σ H4 => σ = [some (.int (m : Int)), some rv, some (.ref t), some (.ref e), some (.ref D), some (.ref W), some (.int (h : Int)), none, none, none, none] ∧ InStep K H H4 D W ps L, ?_, fun σ H4 hM => ?_⟩
        · exact ⟨.ref e, rfl, e, _, 0, .str "hear", rfl, rfl, SqT.same hte st.1, atI_nat (j := 0) rfl, rfl, _, rfl, iteF' w_ne1 ⟨rfl, st⟩⟩
        · obtain ⟨rfl, s4⟩ := hM
          refine ⟨fun σ H5 => ∃ y9 L1, σ = [some (.int (m : Int)), some rv, some (.ref t), some (.ref e), some (.ref D), some (.ref W), some (.int (h : Int)), none, none, y9, none] ∧ InStep K H H5 D W ps L1 ∧ stepHear L h f = some L1, ?_, fun σ H5 hM => ?_⟩
          · refine ⟨.ref e, rfl, e, _, 0, .str "hear", rfl, rfl, SqT.same hte s4.1, atI_nat (j := 0) rfl, rfl, _, rfl, iteT' (decide_eq_true rfl) ?_⟩
            obtain ⟨kvs, hW, hrel⟩ := s4.2.2.2.2
            refine ⟨.ref W, rfl, W, rfl, .inr ⟨kvs, .inl hW⟩, .ref e, rfl, e, _, 2, .int (f : Int), rfl, rfl, SqT.same hte s4.1, atI_nat (j := 2) rfl, .int (h : Int), rfl, zl2, fun k1 nk1 => ⟨zl0, fun k0 nk0 => ⟨valV kvs (keyN (f, h)), DGet.t (by exact (same_upd nk0) _ _ ((same_upd nk1) _ _ hW)) ((same_upd nk0) _ _ upd_same), ?_⟩⟩⟩
            have s5 : Same H4 (upd (upd H4 k1 (.tup [V.int (f : Int), V.int (h : Int)])) k0 (.tup [])) := (same_upd nk1).trans (same_upd nk0)
            obtain ⟨a0, xs0, e0, q0, d0, l0⟩ := get_tasks (pd_keep hrel fun a _ b hb => hb.keep (Same.kt s5)) (z := .ref k0) (Dp.new nk0 .nil) (f, h)
            rw [e0]
            have st5 := s4.same s5
            have gv := g.w.val (f, h)
            generalize (upd (upd H4 k1 (.tup [V.int (f : Int), V.int (h : Int)])) k0 (.tup [])) = H5 at s5 q0 d0 st5
            refine ⟨.ref a0, rfl, a0, xs0, rfl, .inr q0, rfl, _, rfl, ite2 (fun c => ?_) (fun c => ?_)⟩
            · have c' := V.int.inj (of_decide_eq_true c)
              have hv : valW L.2 (f, h) = [] := List.eq_nil_of_length_eq_zero (by omega)
              refine q _ _ st5.1 ?_
              have : stepL m R L (.hear h f) = none := by
                show stepHear L h f = none
                unfold stepHear; rw [hv]
              rw [this]; rfl
            · cases hv : valW L.2 (f, h) with
              | nil => exact absurd (decide_eq_true (by rw [l0, hv]; rfl)) c
              | cons tk r =>
                rw [hv] at d0 gv
                obtain ⟨x, xr, rfl, dx, dxr⟩ := consD d0
                obtain ⟨b, xs, ts, hb, hts, hbx, hxs, hxl⟩ := bagAt st5 g.len oe.1
                have hD := st5.2.2.1
                have hbl := (g.bags _ (List.mem_of_getElem? hts)).1
                refine ⟨.ref D, rfl, .int (h : Int), rfl, D, _, (h : Int), .ref b, rfl, rfl, .inl (.inl hD), atI_nat (refAt hb), .inl ⟨rfl, _, .inl (.inl hbx)⟩, .ref a0, rfl, a0, _, 0, x, rfl, rfl, q0, atI_nat (j := 0) rfl, b, xs, x, rfl, rfl, hbx, by omega, ?_⟩
                have kt := kt_list (K := K) (ys := xs ++ [x]) hbx
                have st6 := st5.bag (ys := xs ++ [x]) (ts := ts ++ [tk]) hb hbx (by rw [List.map_append]; exact DpAll.app hxs (.cons dx .nil))
                have hte6 := kt _ _ (SqT.same hte st5.1)
                have q06 := kt _ _ q0
                have dr6 := DpAll.kt kt _ _ (flatDs_map _ flat_K _) dxr
                generalize upd H5 b (.lst (xs ++ [x])) = H6 at st6 hte6 q06 dr6
                refine ⟨.ref a0, rfl, 1, rfl, ?_⟩
                unfold tNoPart
                refine slA_mk q06 fun H7 p7 e7 q7 => ?_
                have c4 : cutV (x :: xr) (some (1 : Int)) none = xr := cut_from (x :: xr) 1
                rw [c4] at q7
                refine ⟨.ref W, rfl, .ref e, rfl, e, _, 2, .int (f : Int), rfl, rfl, SqT.same hte6 e7, atI_nat (j := 2) rfl, .int (h : Int), rfl, zl2, fun k2 nk2 => ?_⟩
                have s8 := e7.trans (same_upd (o := .tup [V.int (f : Int), V.int (h : Int)]) nk2)
                have st8 := st6.same s8
                obtain ⟨kvs8, hW8, hrel8⟩ := st8.2.2.2.2
                refine ⟨W, _, rfl, DPut.t (k := keyN (f, h)) hW8 upd_same (by rw [pd_len hrel8]; show L.2.length < _; have := g.size; omega), some (.ref a0), _, rfl, st8.put (k := (f, h)) (v := .ref p7) (ts := r) hW8 (.tup (SqT.same q7 (same_upd nk2)) (DpAll.same s8 _ _ dr6)), ?_⟩
                unfold stepHear
                rw [hv, hts]; rfl
          · obtain ⟨y9, L1, rfl, s5, hs⟩ := hM
            exact ⟨.ref D, rfl, .ref W, rfl, zl2, fun t' nt => fin s5 nt hs⟩
      | say h x =>
        refine ⟨.ref e, rfl, e, _, 1, .int (h : Int), rfl, rfl, SqT.same hte st.1, atI_nat (j := 1) rfl, ?_⟩
        refine ⟨fun σ H4 => σ = [some (.int (m : Int)), some rv, some (.ref t), some (.ref e), some (.ref D), some (.ref W), some (.int (h : Int)), none, none, none, none] ∧ InStep K H H4 D W ps L, ?_, fun σ H4 hM => ?_⟩
        · exact ⟨.ref e, rfl, e, _, 0, .str "say", rfl, rfl, SqT.same hte st.1, atI_nat (j := 0) rfl, rfl, _, rfl, iteF' w_ne2 ⟨rfl, st⟩⟩
        · obtain ⟨rfl, s4⟩ := hM
          refine ⟨fun σ H4 => σ = [some (.int (m : Int)), some rv, some (.ref t), some (.ref e), some (.ref D), some (.ref W), some (.int (h : Int)), none, none, none, none] ∧ InStep K H H4 D W ps L, ?_, fun σ H4 hM => ?_⟩
          · exact ⟨.ref e, rfl, e, _, 0, .str "say", rfl, rfl, SqT.same hte s4.1, atI_nat (j := 0) rfl, rfl, _, rfl, iteF' w_ne3 ⟨rfl, s4⟩⟩
          · obtain ⟨rfl, s5⟩ := hM
            exact ⟨.ref D, rfl, .ref W, rfl, zl2, fun t' nt => fin s5 nt rfl⟩
end
end Kq
namespace Kq
open PySem PySem.Spec PyProof.Rows
open L2 hiding CX0 E0 pass0 Fun fun_mk Fun.ok Fun.binds defArgs defBody defScope
open C8
/-! what the law's standing tells; whether it is quiet; a next event -/
section
variable {P : Program} {w : World} {K : PySem.W.Frag} {mg : Str → Option Value} {base : Heap} {CW CR : Addr}
abbrev N_l_told : List Str := ["_law_standing", "_law_ways", "_law_pair", "_law_bag"]
theorem sc_l_told : FnScope N_l_told ["_law_standing"] (fnScope s_l_told) := fnScope_by (by decide +kernel)
abbrev N_l_is_quiet : List Str := ["_law_standing", "_law_bag", "_law_pair"]
theorem sc_l_is_quiet : FnScope N_l_is_quiet ["_law_standing"] (fnScope s_l_is_quiet) := fnScope_by (by decide +kernel)
theorem val_key {H : Hp} {kvs : List (List L2.Key × V)} {d : LW} {k : Nat × Nat} (hr : Paired (EntP K H) kvs d) (hk : k ∈ d.map (·.1)) : ∃ a xs, valV kvs (keyN k) = some (.ref a) ∧ SqT K H a xs ∧ DpAll K H xs ((valW d k).map eK) ∧ xs.length = (valW d k).length := by
  obtain ⟨ts, h1, _⟩ := getW_mem hk
  rcases val_rel (k := k) hr with ⟨v, ts', q1, q2, q3⟩ | ⟨q1, q2⟩
  · obtain ⟨a, xs, rfl, r1, r2, r3⟩ := tasksD q3
    refine ⟨a, xs, q1, r1, ?_, ?_⟩ <;> (unfold valW; rw [q2]; assumption)
  · rw [h1] at q2; cases q2
theorem KeyAt.same {H H' : Hp} {y : V} {k : Nat × Nat} (h : KeyAt H y k) (e : Same H H') : KeyAt H' y k := by
  obtain ⟨t, rfl, q⟩ := h
  exact ⟨t, rfl, e _ _ q⟩
theorem mem_keysW {d : LW} {k : Nat × Nat} (h : k ∈ keysW d) : k ∈ d.map (·.1) := List.mem_mergeSort.mp h
theorem keysW_len (d : LW) : (keysW d).length = d.length := by unfold keysW; rw [List.length_mergeSort, List.length_map]
theorem posB {n : Nat} {A B : Prop} (c : decide ((0 : Int) < (n : Int)) = true → decide (0 < n) = true → A) (d : decide ((0 : Int) < (n : Int)) = false → decide (0 < n) = false → B) : if decide ((0 : Int) < (n : Int)) = true then A else B := by
  by_cases h : 0 < n
  · exact iteT' (decide_eq_true (by omega)) (c (decide_eq_true (by omega)) (decide_eq_true h))
  · exact iteF' (decide_eq_false (by omega)) (d (decide_eq_false (by omega)) (decide_eq_false h))
def spLTold (K : PySem.W.Frag) : Sp := fun vs H Q _ => ∃ (v : V) (L : LS) (fp : List Addr), vs = [v] ∧ IsLS K H v L fp ∧ L.1.length ≤ 1000 ∧ L.2.length ≤ 1000 ∧ ∀ H' u, Same H H' → Dp K H' u (eS (told L)) → Q u H'
theorem c_l_told (T : Tx K mg CW CR) : Cal P w K mg base 1 "_law_told" (spLTold K) [] := by
  obtain ⟨f, fd, F, df⟩ := T.d_l_told.ex
  refine cal0 F (F.fn.binds df b_l_told) .nil sc_l_told (fun vs H Q E h => ?_) (fun cdv A outer s0 H vs Q E hr h => ?_)
  · obtain ⟨v, L, fp, rfl, _⟩ := h; rfl
  · obtain ⟨v, L, fp, rfl, hL, h6, h1000, q⟩ := h
    have hu := hu_of hr
    obtain ⟨t, pb, pd, ps, kvs, rfl, rfl, ht, hpb, hbags, hpd, hways⟩ := hL
    have z := sizeLine_eq
    have hpl := pd_len hbags
    have hkl := pd_len hways
    refine ⟨_, (pss_cons (ps_setLc (own := [("_law_pair", 2)]) (i := 1) (by rfl) sc_l_told.nd rfl rfl (sw_true rfl rfl rfl (by decide +kernel)) (kiList K (pe_callB (ksortK K hr) (by rfl) T.z_sorted (by decide +kernel) (pa_cons (pe_ix (kixT K) (pv 0) pe_int (fun _ _ => rfl)) pa_nil))) (blkOk_by (N := N_l_told) (sc := fnScope s_l_told) (by decide +kernel)) (fun _ _ _ _ _ => (pgn 2 sc_l_told.nd)) (fun _ _ _ _ _ => (pts_one (pt_cmpR op_gt (pe_callB (klen K) (by rfl) T.z_len (by decide +kernel) (pa_cons (pe_dget hu (pe_ix (kixT K) (pv 0) pe_int (fun _ _ => rfl)) (pv 2) (fun _ _ => rfl)) pa_nil)) pe_int (nomark _)))) (fun _ _ _ _ _ => (pe_tup (pa_cons (pe_ix (kixT K) (pv 2) pe_int (fun _ _ => rfl)) (pa_cons (pe_ix (kixT K) (pv 2) pe_int (fun _ _ => rfl)) (pa_cons (pe_dget hu (pe_ix (kixT K) (pv 0) pe_int (fun _ _ => rfl)) (pv 2) (fun _ _ => rfl)) pa_nil))))))
      (pss_one (ps_ret (pe_tup (pa_cons (pe_callTy (ktupO K) (by rfl) T.z_tuple (by decide +kernel) (pa_cons (pe_lc (own := [("_law_bag", 3)]) (by rfl) sc_l_told.nd (kiList K (pe_ix (kixT K) (pv 0) pe_int (fun _ _ => rfl))) (blkOk_by (N := N_l_told) (sc := fnScope s_l_told) (by decide +kernel)) (fun _ _ _ _ _ => (pgn 3 sc_l_told.nd)) (fun _ _ _ _ _ => pts_nil) (fun _ _ _ _ _ => (pe_callTy (ktupO K) (by rfl) T.z_tuple (by decide +kernel) (pa_cons (pv 3) pa_nil)))) pa_nil)) (pa_cons (pe_callTy (ktupO K) (by rfl) T.z_tuple (by decide +kernel) (pa_cons (pv 1) pa_nil)) pa_nil)))))), ?_⟩
    refine ⟨.ref t, rfl, t, _, 1, .ref pd, rfl, rfl, ht, atI_nat (j := 1) rfl, pd, kvs, L.2.map (·.1), rfl, .inl hpd, keys_rel hways, by omega, fun ys p np hys => ?_⟩
    have e1 := same_upd (o := .lst ys) np
    have hyl : ys.length = (keysW L.2).length := pd_len hys
    have hkeys := keysW_len L.2
    have hp : upd H p (.lst ys) p = some (.lst ys) := upd_same
    generalize upd H p (.lst ys) = H1 at e1 hp
    refine ⟨p, rfl, ⟨ys, .inl (.inl hp)⟩, fun D nD => lc_list (xs := ys) (PvM K H1 D (keysW L.2) (fun k => decide (0 < (valW L.2 k).length)) fun k => eW (k.1, k.2, valW L.2 k)) (PvM.zero nD) (fun i H' _ h => .inl (.inl (h.same _ _ hp))) (fun i x H' hi hP => ?_) (fun H' hP => ?_)⟩
    · have e2 := e1.trans hP.same
      obtain ⟨k, hk, tk, rfl, hkt⟩ := pd_getR hys hi
      have hkt2 := e2 _ _ hkt
      have hkt3 : SqT K H' tk [.int (k.1 : Int), .int (k.2 : Int)] := .inl (.inl hkt2)
      obtain ⟨a, xs, hv, ha, hxs, hxl⟩ := val_key (k := k) hways (mem_keysW (List.mem_of_getElem? hk))
      have hget : DGet H' pd (.ref tk) (some (.ref a)) := by
        have := DGet.t (k := keyN k) (e2 _ _ hpd) hkt2
        rw [hv] at this; exact this
      have hlen := (List.getElem?_eq_some_iff.mp hk).1
      refine ⟨rfl, .ref t, rfl, t, _, 1, .ref pd, rfl, rfl, SqT.same ht e2, atI_nat (j := 1) rfl, .ref tk, rfl, pd, .ref a, rfl, hget, a, xs, rfl, .inr (SqT.same ha e2), _, _, rfl, rfl, _, rfl, ?_⟩
      rw [hxl]
      refine posB (fun _ c => ?_) (fun _ c => hP.skip hk c (Same.refl _))
      refine ⟨.ref tk, rfl, tk, _, 0, .int (k.1 : Int), rfl, rfl, hkt3, atI_nat (j := 0) rfl, .ref tk, rfl, tk, _, 1, .int (k.2 : Int), rfl, rfl, hkt3, atI_nat (j := 1) rfl, .ref t, rfl, t, _, 1, .ref pd, rfl, rfl, SqT.same ht e2, atI_nat (j := 1) rfl, .ref tk, rfl, pd, .ref a, rfl, hget, zl3, fun p2 np2 => ?_⟩
      exact hP.step nD (by omega) hk c (fun _ => flat_W _) (same_upd np2) (Dp.new np2 (.cons (.int _) (.cons (.int _) (.cons (.tup (SqT.same ha e2) (DpAll.same e2 _ _ hxs)) .nil))))
    · obtain ⟨s1, acc, hD, hacc⟩ := hP.done (by omega)
      have e2 := e1.trans s1
      refine ⟨.ref t, rfl, t, _, 0, .ref pb, rfl, rfl, SqT.same ht e2, atI_nat (j := 0) rfl, pb, rfl, ⟨_, .inl (.inl (e2 _ _ hpb))⟩, fun D2 nD2 => lc_list (xs := ps.map V.ref) (PvM K H' D2 L.1 every eT) (PvM.zero nD2) (fun i H2 _ h => .inl (.inl (h.same _ _ (e2 _ _ hpb)))) (fun i x H2 hi hP2 => ?_) (fun H2 hP2 => ?_)⟩
      · rw [List.getElem?_map] at hi
        cases hq : ps[i]? with
        | none => rw [hq] at hi; cases hi
        | some b =>
          rw [hq] at hi
          cases hi
          have e3 := e2.trans hP2.same
          obtain ⟨ts, hts, xs, hb, dxs⟩ := pd_getR hbags hq
          refine ⟨rfl, yesT ⟨.ref b, rfl, b, xs, rfl, .inl ⟨.inl (.inl (e3 _ _ hb)), fun p2 np2 => ?_⟩⟩⟩
          exact hP2.step nD2 (by omega) hts rfl flat_T (same_upd np2) (Dp.new np2 (DpAll.same e3 _ _ dxs))
      · obtain ⟨s2, acc2, hD2, hacc2⟩ := hP2.done (by rw [List.length_map]; omega)
        rw [filter_every] at hacc2
        refine ⟨D2, acc2, rfl, .inl ⟨.inl (.inl hD2), fun p2 np2 => ⟨.ref D, rfl, D, acc, rfl, .inl ⟨.inl (.inl ((same_upd np2) _ _ (s2 _ _ hD))), fun p3 np3 => ⟨zl2, fun u nu => ?_⟩⟩⟩⟩⟩
        have e4 := e2.trans (s2.trans ((same_upd (o := .tup acc2) np2).trans ((same_upd (o := .tup acc) np3).trans (same_upd (o := .tup [.ref p2, .ref p3]) nu))))
        refine q _ _ e4 (Dp.new nu (.cons (Dp.same (same_upd np3) _ _ (Dp.new np2 hacc2)) (.cons (Dp.new np3 ?_) .nil)))
        have := DpAll.same (s2.trans (same_upd (o := .tup acc2) np2)) _ _ hacc
        show DpAll K _ acc ((toldW L.2).map eW)
        unfold toldW
        rw [List.map_map]
        exact this
/-- _law_is_quiet -/
def spLQuiet (K : PySem.W.Frag) : Sp := fun vs H Q _ => ∃ (v : V) (L : LS) (fp : List Addr), vs = [v] ∧ IsLS K H v L fp ∧ L.1.length ≤ 1000 ∧ L.2.length ≤ 1000 ∧ ∀ H', Same H H' → Q (.bl (quietL L)) H'
theorem c_l_is_quiet (T : Tx K mg CW CR) : Cal P w K mg base 1 "_law_is_quiet" (spLQuiet K) [] := by
  obtain ⟨f, fd, F, df⟩ := T.d_l_is_quiet.ex
  refine cal0 F (F.fn.binds df b_l_is_quiet) .nil sc_l_is_quiet (fun vs H Q E h => ?_) (fun cdv A outer s0 H vs Q E hr h => ?_)
  · obtain ⟨v, L, fp, rfl, _⟩ := h; rfl
  · obtain ⟨v, L, fp, rfl, hL, h6, h1000, q⟩ := h
    have hu := hu_of hr
    obtain ⟨t, pb, pd, ps, kvs, rfl, rfl, ht, hpb, hbags, hpd, hways⟩ := hL
    have z := sizeLine_eq
    have hpl := pd_len hbags
    have hkl := pd_len hways
    refine ⟨_, (pss_one (ps_ret (pe_cmpR op_eq (pe_op op_add (pe_callB (ksum K) (by rfl) T.z_sum (by decide +kernel) (pa_cons (pe_lc (own := [("_law_bag", 1)]) (by rfl) sc_l_is_quiet.nd (kiList K (pe_ix (kixT K) (pv 0) pe_int (fun _ _ => rfl))) (blkOk_by (N := N_l_is_quiet) (sc := fnScope s_l_is_quiet) (by decide +kernel)) (fun _ _ _ _ _ => (pgn 1 sc_l_is_quiet.nd)) (fun _ _ _ _ _ => pts_nil) (fun _ _ _ _ _ => (pe_callB (klen K) (by rfl) T.z_len (by decide +kernel) (pa_cons (pv 1) pa_nil)))) pa_nil)) (pe_callB (ksum K) (by rfl) T.z_sum (by decide +kernel) (pa_cons (pe_lock (pe_lc (own := [("_law_pair", 2)]) (by rfl) sc_l_is_quiet.nd (pi_keys (pe_ix (kixT K) (pv 0) pe_int (fun _ _ => rfl))) (blkOk_by (N := N_l_is_quiet) (sc := fnScope s_l_is_quiet) (by decide +kernel)) (fun _ _ _ _ _ => (pgn 2 sc_l_is_quiet.nd)) (fun _ _ _ _ _ => pts_nil) (fun _ _ _ _ _ => (pe_callB (klen K) (by rfl) T.z_len (by decide +kernel) (pa_cons (pe_dget hu (pe_ix (kixT K) (pv 0) pe_int (fun _ _ => rfl)) (pv 2) (fun _ _ => rfl)) pa_nil))))) pa_nil))) pe_int (nomark _)))), ?_⟩
    refine ⟨.ref t, rfl, t, _, 0, .ref pb, rfl, rfl, ht, atI_nat (j := 0) rfl, pb, rfl, ⟨_, .inl (.inl hpb)⟩, fun D nD => lc_list (xs := ps.map V.ref) (PvM K H D L.1 every fun b => .int (b.length : Int)) (PvM.zero nD) (fun i H' _ h => .inl (.inl (h.same _ _ hpb))) (fun i x H' hi hP => ?_) (fun H1 hP => ?_)⟩
    · rw [List.getElem?_map] at hi
      cases hq : ps[i]? with
      | none => rw [hq] at hi; cases hi
      | some b =>
        rw [hq] at hi
        cases hi
        obtain ⟨ts, hts, xs, hb, dxs⟩ := pd_getR hbags hq
        have hxl : xs.length = ts.length := by rw [DpAll.len dxs, List.length_map]
        refine ⟨rfl, yesT ⟨.ref b, rfl, b, xs, rfl, .inl (.inl (.inl (hP.same _ _ hb))), ?_⟩⟩
        rw [hxl]
        exact hP.step nD (by omega) hts rfl (fun _ => rfl) (Same.refl _) (.int _)
    · obtain ⟨s1, acc, hD, hacc⟩ := hP.done (by rw [List.length_map]; omega)
      rw [filter_every] at hacc
      rw [ints_of hacc] at hD
      refine ⟨D, _, rfl, .inl (.inl hD), pd, .dT kvs, s1 _ _ hpd, True.intro, fun od => ?_⟩
      have kt : KT K H1 (upd H1 pd (.frz od (.dT kvs))) := fun a zs qz => by
        rcases qz with (qz | ⟨o, qz⟩) | qz
        · exact .inl (.inl (by rw [upd_ne (ne_of qz (s1 _ _ hpd) fun z => nomatch z)]; exact qz))
        · exact .inl (.inr ⟨o, by rw [upd_ne (ne_of qz (s1 _ _ hpd) fun z => nomatch z)]; exact qz⟩)
        · exact .inr qz
      have hz2 : upd H1 pd (.frz od (.dT kvs)) pd = some (.frz od (.dT kvs)) := upd_same
      have ht2 := kt _ _ (SqT.same ht s1)
      have hways2 : Paired (EntP K (upd H1 pd (.frz od (.dT kvs)))) kvs L.2 := pd_keep hways fun a _ b hb => (hb.keep (Same.kt s1)).keep kt
      have back : ∀ {H3 : Hp}, Same (upd H1 pd (.frz od (.dT kvs))) H3 → Same H1 (upd H3 pd (.dT kvs)) := fun {H3} s b o hb => by
        by_cases hbp : b = pd
        · subst hbp
          rw [s1 _ _ hpd] at hb
          cases hb
          exact upd_same
        · rw [upd_ne hbp]
          exact s _ _ (by rw [upd_ne hbp]; exact hb)
      have hDp : D ≠ pd := ne_of hD (s1 _ _ hpd) fun z => nomatch z
      generalize upd H1 pd (.frz od (.dT kvs)) = H2 at kt hz2 ht2 hways2 back
      refine ⟨.ref t, rfl, t, _, 1, .ref pd, rfl, rfl, ht2, atI_nat (j := 1) rfl, pd, od, rfl, .inr ⟨kvs, hz2, fun D2 nD2 => lc_it walk_keysT (PvM K H2 D2 L.2 every fun e => .int ((valW L.2 e.1).length : Int)) (PvM.zero nD2) (fun i H' _ h => h.same _ _ hz2) (fun i x H3 H3' hi hP2 hY => ?_) (fun H3 hP2 => ?_)⟩⟩
      · obtain ⟨rfl, kk, vv, tk, hkv, rfl, htk⟩ := hY
        obtain ⟨e, he, hke, hde⟩ := pd_getR hways2 hkv
        have hke : kk = keyN e.1 := hke
        subst hke
        obtain ⟨a, xs, hv, ha, hxs, hxl⟩ := val_key (k := e.1) hways2 (List.mem_map.mpr ⟨e, List.mem_of_getElem? he, rfl⟩)
        have s2 := hP2.same
        have hget : DGet H3' pd (.ref tk) (some (.ref a)) := .inr ⟨kvs, keyN e.1, tk, .inr ⟨od, s2 _ _ hz2⟩, rfl, htk, hv.symm⟩
        refine ⟨rfl, yesT ⟨.ref t, rfl, t, _, 1, .ref pd, rfl, rfl, SqT.same ht2 s2, atI_nat (j := 1) rfl, .ref tk, rfl, pd, .ref a, rfl, hget, a, xs, rfl, .inr (SqT.same ha s2), ?_⟩⟩
        rw [hxl]
        exact hP2.step nD2 (by omega) he rfl (fun _ => rfl) (Same.refl _) (.int _)
      · obtain ⟨s2, acc2, hD2, hacc2⟩ := hP2.done (by omega)
        rw [filter_every] at hacc2
        rw [ints_of hacc2] at hD2
        have hD2p : D2 ≠ pd := ne_of hD2 (s2 _ _ hz2) fun z => nomatch z
        refine ⟨s2 _ _ hz2, D2, _, rfl, .inl (.inl (by rw [upd_ne hD2p]; exact hD2)), _, _, rfl, rfl, rfl, ?_⟩
        have := q _ (s1.trans (back s2))
        have hb : quietL L = decide (V.int ((L.1.map fun b => (b.length : Int)).sum + (L.2.map fun e => ((valW L.2 e.1).length : Int)).sum) = V.int 0) := by
          unfold quietL
          exact decide_eq_decide.mpr ⟨fun h => congrArg V.int h, fun h => V.int.inj h⟩
        rw [hb] at this
        exact this
end
end Kq
namespace Kq
open PySem PySem.Spec PyProof.Rows
open L2 hiding CX0 E0 pass0 Fun fun_mk Fun.ok Fun.binds defArgs defBody defScope
open C8
/-! a next event; a run -/
section
variable {P : Program} {w : World} {K : PySem.W.Frag} {mg : Str → Option Value} {base : Heap} {CW CR : Addr}
abbrev N_l_event : List Str := ["_law_hand_here", "_law_many_here", "_law_standing", "_law_some", "_law_house", "_law_pair"]
theorem sc_l_event : FnScope N_l_event ["_law_hand_here", "_law_many_here", "_law_standing"] (fnScope s_l_event) := fnScope_by (by decide +kernel)
abbrev N_l_run : List Str := ["_law_hand_here", "_law_most", "_law_many_here", "_law_rules_here", "_law_given", "_law_standing", "_law_events", "_law_turn", "_law_event_here"]
theorem sc_l_run : FnScope N_l_run ["_law_hand_here", "_law_most"] (fnScope s_l_run) := fnScope_by (by decide +kernel)
def evsDo (m : Nat) (L : LS) : List Nat := (List.range m).filter fun h => decide (0 < ((L.1[h]?).getD []).length)
def evsHear (L : LS) : List (Nat × Nat) := (keysW L.2).filter fun k => decide (0 < (valW L.2 k).length)
theorem evsDo_ok {m n : Nat} {R : Rules} {L : LS} (g : GoodL m R n L) {h : Nat} (hh : h ∈ evsDo m L) : okEv m (.doo h) ∧ stepL m R L (.doo h) ≠ none := by
  obtain ⟨h1, h2⟩ := List.mem_filter.mp hh
  have h1 := List.mem_range.mp h1
  have h2 := of_decide_eq_true h2
  refine ⟨h1, fun z => ?_⟩
  have z : stepDo m R L h = none := z
  unfold stepDo at z
  have hl := g.len
  obtain ⟨ts, hts⟩ : ∃ ts, L.1[h]? = some ts := ⟨_, List.getElem?_eq_getElem (by omega)⟩
  rw [hts] at z h2
  cases ts with
  | nil => exact absurd h2 (by decide)
  | cons t r => cases z
theorem evsHear_ok {m n : Nat} {R : Rules} {L : LS} (g : GoodL m R n L) {k : Nat × Nat} (hk : k ∈ evsHear L) : okEv m (.hear k.2 k.1) ∧ stepL m R L (.hear k.2 k.1) ≠ none := by
  obtain ⟨h1, h2⟩ := List.mem_filter.mp hk
  have h2 := of_decide_eq_true h2
  obtain ⟨x, hx, rfl⟩ := List.mem_map.mp (mem_keysW h1)
  have hw := g.ways x hx
  refine ⟨⟨hw.2.1, hw.1⟩, fun z => ?_⟩
  have z : stepHear L x.1.2 x.1.1 = none := z
  unfold stepHear at z
  cases q : valW L.2 x.1 with
  | nil => rw [q] at h2; exact absurd h2 (by decide)
  | cons t r =>
    have q2 : valW L.2 (x.1.1, x.1.2) = t :: r := q
    rw [q2] at z; cases z
def spLEvent (K : PySem.W.Frag) : Sp := fun vs H Q _ => ∃ (a c : Addr) (m n : Nat) (R : Rules) (v : V) (L : LS) (fp : List Addr), vs = [.ref a, .int (m : Int), v] ∧ Hand H a c ∧ IsLS K H v L fp ∧ a ∉ fp ∧ 1 ≤ m ∧ m ≤ 6 ∧ GoodL m R n L ∧ n ≤ 900 ∧
  ∀ H' u e, Drew a c H H' → Dp K H' u (eE e) → okEv m e → stepL m R L e ≠ none → Q u H'
theorem c_l_event (T : Tx K mg CW CR) : Cal P w K mg base 3 "_law_event" (spLEvent K) [] := by
  have c_l_draw := c_l_draw (P := P) (w := w) (base := base) T
  have c_l_any := c_l_any (P := P) (w := w) (base := base) T
  obtain ⟨f, fd, F, df⟩ := T.d_l_event.ex
  refine cal0 F (F.fn.binds df b_l_event) .nil sc_l_event (fun vs H Q E h => ?_) (fun cdv A outer s0 H vs Q E hr h => ?_)
  · obtain ⟨a, c, m, n, R, v, L, fp, rfl, _⟩ := h; rfl
  · obtain ⟨a, c, m, n, R, v, L, fp, rfl, ha, hL, hfp, m1, m6, g, hn, q⟩ := h
    have hu := hu_of hr
    obtain ⟨t, pb, pd, ps, kvs, rfl, rfl, ht, hpb, hbags, hpd, hways⟩ := hL
    have z := sizeLine_eq
    have hpl := pd_len hbags
    have hkl := pd_len hways
    have hgl := g.len
    have hgs := g.size
    refine ⟨_, (pss_cons (ps_setLc (own := [("_law_house", 4)]) (i := 3) (by rfl) sc_l_event.nd rfl rfl (sw_true rfl rfl rfl (by decide +kernel)) (pi_range1 (by rfl) T.z_range (pa_cons (pv 1) pa_nil)) (blkOk_by (N := N_l_event) (sc := fnScope s_l_event) (by decide +kernel)) (fun _ _ _ _ _ => (pgn 4 sc_l_event.nd)) (fun _ _ _ _ _ => (pts_one (pt_cmpR op_gt (pe_callB (klen K) (by rfl) T.z_len (by decide +kernel) (pa_cons (pe_ix (kixL K) (pe_ix (kixT K) (pv 2) pe_int (fun _ _ => rfl)) (pv 4) (fun _ _ => rfl)) pa_nil)) pe_int (nomark _)))) (fun _ _ _ _ _ => (pe_tup (pa_cons pe_str (pa_cons (pv 4) pa_nil)))))
      (pss_cons (ps_expr (pe_bm PySem.F.plainAttrs_list PySem.F.slot_list_extend PySem.F.type_list_extend mt_extend (pv 3) (pa_cons (pe_lc (own := [("_law_pair", 5)]) (by rfl) sc_l_event.nd (kiList K (pe_callB (ksortK K hr) (by rfl) T.z_sorted (by decide +kernel) (pa_cons (pe_ix (kixT K) (pv 2) pe_int (fun _ _ => rfl)) pa_nil))) (blkOk_by (N := N_l_event) (sc := fnScope s_l_event) (by decide +kernel)) (fun _ _ _ _ _ => (pgn 5 sc_l_event.nd)) (fun _ _ _ _ _ => (pts_one (pt_cmpR op_gt (pe_callB (klen K) (by rfl) T.z_len (by decide +kernel) (pa_cons (pe_dget hu (pe_ix (kixT K) (pv 2) pe_int (fun _ _ => rfl)) (pv 5) (fun _ _ => rfl)) pa_nil)) pe_int (nomark _)))) (fun _ _ _ _ _ => (pe_tup (pa_cons pe_str (pa_cons (pe_ix (kixT K) (pv 5) pe_int (fun _ _ => rfl)) (pa_cons (pe_ix (kixT K) (pv 5) pe_int (fun _ _ => rfl)) pa_nil)))))) pa_nil)))
      (pss_cons (ps_if (PW.pt (pw_or (pt_cmpR op_eq (pe_callB (klen K) (by rfl) T.z_len (by decide +kernel) (pa_cons (pv 3) pa_nil)) pe_int (nomark _)) (pw_or1 (pt_cmpR op_eq (pe_c c_l_draw hr (by decide) (by rfl) (pa_cons (pv 0) (pa_cons pe_int pa_nil))) pe_int (nomark _)))))
        (pss_one (ps_ret (pe_tup (pa_cons pe_str (pa_cons (pe_c c_l_draw hr (by decide) (by rfl) (pa_cons (pv 0) (pa_cons (pv 1) pa_nil))) (pa_cons (pe_c c_l_any hr (by decide) (by rfl) (pa_cons (pv 0) (pa_cons (pe_lst (pa_cons pe_str (pa_cons pe_str (pa_cons pe_str pa_nil)))) pa_nil))) pa_nil)))))) pss_nil)
      (pss_one (ps_ret (pe_c c_l_any hr (by decide) (by rfl) (pa_cons (pv 0) (pa_cons (pv 3) pa_nil)))))))), ?_⟩
    refine ⟨.int (m : Int), rfl, (m : Int), rfl, by omega, by omega, fun D nD => lc_range (lo := 0) (n := ((m : Int)).toNat) (PvM K H D (List.range m) (fun h => decide (0 < ((L.1[h]?).getD []).length)) fun h => eE (.doo h)) (PvM.zero nD) (fun i H' hi hP => ?_) (fun H1 hP => ?_)⟩
    · have hz : (0 : Int) + (i : Int) = (i : Int) := by omega
      rw [hz]
      have him : i < m := by omega
      have e1 := hP.same
      have hri : (List.range m)[i]? = some i := by rw [List.getElem?_range him]
      obtain ⟨ts, hts⟩ : ∃ ts, L.1[i]? = some ts := ⟨_, List.getElem?_eq_getElem (by omega)⟩
      obtain ⟨b, hb, xs, hbx, dxs⟩ := pd_getL hbags hts
      have hxl : xs.length = ((L.1[i]?).getD []).length := by rw [hts, DpAll.len dxs, List.length_map]; rfl
      refine ⟨rfl, .ref t, rfl, t, _, 0, .ref pb, rfl, rfl, SqT.same ht e1, atI_nat (j := 0) rfl, .int (i : Int), rfl, pb, _, (i : Int), .ref b, rfl, rfl, .inl (.inl (e1 _ _ hpb)), atI_nat (by rw [List.getElem?_map, hb]; rfl), b, xs, rfl, .inl (.inl (.inl (e1 _ _ hbx))), _, _, rfl, rfl, _, rfl, ?_⟩
      rw [hxl]
      refine posB (fun _ c => ?_) (fun _ c => hP.skip hri c (Same.refl _))
      refine ⟨.int (i : Int), rfl, zl2, fun p np => ?_⟩
      exact hP.step nD (by rw [List.length_range]; omega) hri c (fun _ => rfl) (same_upd np) (Dp.new np (.cons (.str _) (.cons (.int _) .nil)))
    · obtain ⟨s1, acc, hD, hacc⟩ := hP.done (by rw [List.length_range]; omega)
      refine ⟨.ref D, rfl, .inl ⟨rfl, _, .inl (.inl hD)⟩, .ref t, rfl, t, _, 1, .ref pd, rfl, rfl, SqT.same ht s1, atI_nat (j := 1) rfl, pd, kvs, L.2.map (·.1), rfl, .inl (s1 _ _ hpd), keys_rel hways, by omega, fun ys p np hys => ?_⟩
      have e1 := s1.trans (same_upd (o := .lst ys) np)
      have hDp : upd H1 p (.lst ys) D = some (.lst acc) := (same_upd np) _ _ hD
      have hacc1 := DpAll.same (same_upd (o := .lst ys) np) _ _ hacc
      have hyl : ys.length = (keysW L.2).length := pd_len hys
      have hkeys := keysW_len L.2
      have hys : Paired (KeyAt (upd H1 p (.lst ys))) ys (keysW L.2) := pd_keep hys fun a _ b hb => KeyAt.same hb (same_upd np)
      have hp : upd H1 p (.lst ys) p = some (.lst ys) := upd_same
      generalize upd H1 p (.lst ys) = H2 at e1 hp hDp hacc1 hys
      refine ⟨p, rfl, ⟨ys, .inl (.inl hp)⟩, fun D2 nD2 => lc_list (xs := ys) (PvM K H2 D2 (keysW L.2) (fun k => decide (0 < (valW L.2 k).length)) fun k => eE (.hear k.2 k.1)) (PvM.zero nD2) (fun i H' _ h => .inl (.inl (h.same _ _ hp))) (fun i x H' hi hP => ?_) (fun H3 hP => ?_)⟩
      · have e2 := e1.trans hP.same
        obtain ⟨k, hk, tk, rfl, hkt⟩ := pd_getR hys hi
        have hkt2 := hP.same _ _ hkt
        have hkt3 : SqT K H' tk [.int (k.1 : Int), .int (k.2 : Int)] := .inl (.inl hkt2)
        obtain ⟨va, xs, hv, hva, hxs, hxl⟩ := val_key (k := k) hways (mem_keysW (List.mem_of_getElem? hk))
        have hget : DGet H' pd (.ref tk) (some (.ref va)) := by
          have := DGet.t (k := keyN k) (e2 _ _ hpd) hkt2
          rw [hv] at this; exact this
        have hlen := (List.getElem?_eq_some_iff.mp hk).1
        refine ⟨rfl, .ref t, rfl, t, _, 1, .ref pd, rfl, rfl, SqT.same ht e2, atI_nat (j := 1) rfl, .ref tk, rfl, pd, .ref va, rfl, hget, va, xs, rfl, .inr (SqT.same hva e2), _, _, rfl, rfl, _, rfl, ?_⟩
        rw [hxl]
        refine posB (fun _ c => ?_) (fun _ c => hP.skip hk c (Same.refl _))
        refine ⟨.ref tk, rfl, tk, _, 1, .int (k.2 : Int), rfl, rfl, hkt3, atI_nat (j := 1) rfl, .ref tk, rfl, tk, _, 0, .int (k.1 : Int), rfl, rfl, hkt3, atI_nat (j := 0) rfl, zl3, fun p2 np2 => ?_⟩
        exact hP.step nD2 (by omega) hk c (fun _ => rfl) (same_upd np2) (Dp.new np2 (.cons (.str _) (.cons (.int _) (.cons (.int _) .nil))))
      · obtain ⟨s3, acc2, hD2, hacc2⟩ := hP.done (by omega)
        have hal : acc.length ≤ m := by
          rw [DpAll.len hacc, List.length_map]
          exact Nat.le_trans (List.length_filter_le _ _) (by rw [List.length_range]; exact Nat.le_refl _)
        have hal2 : acc2.length ≤ 900 := by
          rw [DpAll.len hacc2, List.length_map]
          exact Nat.le_trans (List.length_filter_le _ _) (by omega)
        have hD3 := s3 _ _ hDp
        refine ⟨D, D2, acc, acc2, rfl, rfl, hD3, hD2, by omega, ?_⟩
        obtain ⟨n1, n2⟩ := ha.fresh nD
        have e3 := e1.trans s3
        have dx : Drew a c H (upd H3 D (.lst (acc ++ acc2))) := ⟨fun b o _ hb => by rw [upd_ne (ne_of_none hb nD)]; exact e3 _ _ hb, (ha.same e3).upd n1 n2⟩
        have kt := kt_list (K := K) (ys := acc ++ acc2) hD3
        have hall : DpAll K (upd H3 D (.lst (acc ++ acc2))) (acc ++ acc2) (((evsDo m L).map Ev.doo ++ (evsHear L).map fun k => Ev.hear k.2 k.1).map eE) := by
          rw [List.map_append, List.map_map, List.map_map]
          exact DpAll.app (DpAll.kt kt _ _ (flatDs_map (fun h => eE (.doo h)) (fun _ => rfl) _) (DpAll.same s3 _ _ hacc1)) (DpAll.kt kt _ _ (flatDs_map (fun k : Nat × Nat => eE (.hear k.2 k.1)) (fun _ => rfl) _) hacc2)
        have hDx : upd H3 D (.lst (acc ++ acc2)) D = some (.lst (acc ++ acc2)) := upd_same
        generalize upd H3 D (.lst (acc ++ acc2)) = Hx at dx hall hDx
        have wds : ∀ x, x ∈ [V.str "tree", V.str "ring", V.str "coin"] → ∃ y : _root_.Fin 3, x = .str (wd y) := fun x hx => by
          simp only [List.mem_cons, List.not_mem_nil, or_false] at hx
          rcases hx with rfl | rfl | rfl
          · exact ⟨0, rfl⟩
          · exact ⟨1, rfl⟩
          · exact ⟨2, rfl⟩
        refine ⟨.ref D, rfl, D, _, rfl, .inl (.inl (.inl hDx)), rfl, _, rfl, ite2 (fun cc => ?_) (fun cc => ?_)⟩
        · refine iteT ?_
          refine ⟨.ref a, rfl, .int (m : Int), rfl, a, c, m, rfl, dx.hand, m1, by omega, fun H4 h d4 hh => ⟨.ref a, rfl, zlN (by decide), fun p4 np4 => ?_⟩⟩
          have d5 := d4.new (o := .lst [V.str "tree", V.str "ring", V.str "coin"]) np4
          refine ⟨a, c, p4, _, rfl, d5.hand, upd_same, (d4.hand.fresh np4).1, by decide, by decide, fun H5 x d6 hx => ?_⟩
          obtain ⟨y, rfl⟩ := wds x hx
          exact ⟨zl3, fun u nu => q _ _ (.say h y) ((dx.trans (d5.trans d6)).new nu) (Dp.new nu (.cons (.str _) (.cons (.int _) (.cons (.str _) .nil)))) hh (fun z => nomatch z)⟩
        · refine ⟨.ref a, rfl, a, c, 6, rfl, dx.hand, by decide, by decide, fun H4 dd d4 hdd => ⟨rfl, _, rfl, ite2 (fun c2 => ?_) (fun c2 => ?_)⟩⟩
          · have dx := dx.trans d4
            refine ⟨.ref a, rfl, .int (m : Int), rfl, a, c, m, rfl, dx.hand, m1, by omega, fun H4 h d4 hh => ⟨.ref a, rfl, zlN (by decide), fun p4 np4 => ?_⟩⟩
            have d5 := d4.new (o := .lst [V.str "tree", V.str "ring", V.str "coin"]) np4
            refine ⟨a, c, p4, _, rfl, d5.hand, upd_same, (d4.hand.fresh np4).1, by decide, by decide, fun H5 x d6 hx => ?_⟩
            obtain ⟨y, rfl⟩ := wds x hx
            exact ⟨zl3, fun u nu => q _ _ (.say h y) ((dx.trans (d5.trans d6)).new nu) (Dp.new nu (.cons (.str _) (.cons (.int _) (.cons (.str _) .nil)))) hh (fun z => nomatch z)⟩
          · refine ⟨.ref a, rfl, .ref D, rfl, a, c, D, _, rfl, d4.hand, d4.but _ _ n1 hDx, n1, ?_, by rw [List.length_append]; omega, fun H5 x d5 hx => ?_⟩
            · have : (acc ++ acc2).length ≠ 0 := fun zz => cc (decide_eq_true (by rw [zz]; rfl))
              omega
            · obtain ⟨i, hi⟩ := List.mem_iff_getElem?.mp hx
              obtain ⟨e, he, de⟩ := item_of hall hi
              have hok : okEv m e ∧ stepL m R L e ≠ none := by
                rcases List.mem_append.mp (List.mem_of_getElem? he) with hm | hm
                · obtain ⟨h, hh, rfl⟩ := List.mem_map.mp hm
                  exact evsDo_ok g hh
                · obtain ⟨k, hk, rfl⟩ := List.mem_map.mp hm
                  exact evsHear_ok g hk
              exact q _ _ e (dx.trans (d4.trans d5)) (Drew.data dx.hand (d4.trans d5) (flat_E e) de) hok.1 hok.2
/-- _law_run -/
def spLRun (K : PySem.W.Frag) : Sp := fun vs H Q _ => ∃ (a c : Addr), vs = [.ref a, .int 60] ∧ Hand H a c ∧
  ∀ H' t (m : Nat) rv gv ev R g es, Drew a c H H' → SqT K H' t [.int (m : Int), rv, gv, ev] → Dp K H' rv (eR R) → Dp K H' gv (eT g) → Dp K H' ev (eEs es) → okRules m R → (∀ t ∈ g, okTask R t) → g.length ≤ 3 → (∀ e ∈ es, okEv m e) → es.length ≤ 60 → Q (.ref t) H'
theorem c_l_run (T : Tx K mg CW CR) : Cal P w K mg base 4 "_law_run" (spLRun K) [] := by
  have c_l_draw := c_l_draw (P := P) (w := w) (base := base) T
  have c_l_any := c_l_any (P := P) (w := w) (base := base) T
  have c_l_rules := c_l_rules (P := P) (w := w) (base := base) T
  have c_l_task := c_l_task (P := P) (w := w) (base := base) T
  have c_l_first := c_l_first (P := P) (w := w) (base := base) T
  have c_l_event := c_l_event (P := P) (w := w) (base := base) T
  have c_l_step := c_l_step (P := P) (w := w) (base := base) T
  obtain ⟨f, fd, F, df⟩ := T.d_l_run.ex
  refine cal0 F (F.fn.binds df b_l_run) .nil sc_l_run (fun vs H Q E h => ?_) (fun cdv A outer s0 H vs Q E hr h => ?_)
  · obtain ⟨a, c, rfl, _⟩ := h; rfl
  · obtain ⟨a, c, rfl, ha, q⟩ := h
    have z := sizeLine_eq
    refine ⟨_, (pss_cons (ps_asg (pe_c c_l_rules hr (by decide) (by rfl) (pa_cons (pv 0) pa_nil)) (pgt K 2 (pgs_cons (pgn 2 sc_l_run.nd) (pgs_cons (pgn 3 sc_l_run.nd) pgs_nil))))
      (pss_cons (ps_set (i := 4) sc_l_run.nd rfl (.inl rfl) (pe_callTy (ktupO K) (by rfl) T.z_tuple (by decide +kernel) (pa_cons (pe_lc (own := [("_law_turn", 7)]) (by rfl) sc_l_run.nd (pi_range1 (by rfl) T.z_range (pa_cons (pe_c c_l_any hr (by decide) (by rfl) (pa_cons (pv 0) (pa_cons (pe_lst (pa_cons pe_int (pa_cons pe_int (pa_cons pe_int (pa_cons pe_int (pa_cons pe_int pa_nil)))))) pa_nil))) pa_nil)) (blkOk_by (N := N_l_run) (sc := fnScope s_l_run) (by decide +kernel)) (fun _ _ _ _ _ => (pgn 7 sc_l_run.nd)) (fun _ _ _ _ _ => pts_nil) (fun _ _ _ _ _ => (pe_c c_l_task hr (by decide) (by rfl) (pa_cons (pv 0) (pa_cons (pv 3) (pa_cons pe_int pa_nil)))))) pa_nil)))
      (pss_cons (ps_par (i := 5) (j := 6) (by rfl) sc_l_run.nd rfl rfl (by decide) rfl rfl (pa_cons (pe_c c_l_first hr (by decide) (by rfl) (pa_cons (pv 2) (pa_cons (pv 4) pa_nil))) (pa_cons (pe_lst pa_nil) pa_nil)) (by rfl))
      (pss_cons (ps_for PassesOwn.never rfl (pi_range1 (by rfl) T.z_range (pa_cons (pe_c c_l_draw hr (by decide) (by rfl) (pa_cons (pv 0) (pa_cons (pe_op op_add (pv 1) pe_int) pa_nil))) pa_nil)) (pgn 7 sc_l_run.nd)
        (pss_cons (ps_set (i := 8) sc_l_run.nd rfl (.inl rfl) (pe_c c_l_event hr (by decide) (by rfl) (pa_cons (pv 0) (pa_cons (pv 2) (pa_cons (pv 5) pa_nil)))))
        (pss_cons (ps_set (i := 5) sc_l_run.nd rfl (.inl rfl) (pe_c c_l_step hr (by decide) (by rfl) (pa_cons (pv 2) (pa_cons (pv 3) (pa_cons (pv 5) (pa_cons (pv 8) pa_nil))))))
        (pss_one (ps_expr (pe_bm PySem.F.plainAttrs_list PySem.F.slot_list_append PySem.F.type_list_append mt_append (pv 6) (pa_cons (pv 8) pa_nil)))))))
      (pss_one (ps_ret (pe_tup (pa_cons (pv 2) (pa_cons (pv 3) (pa_cons (pv 4) (pa_cons (pe_callTy (ktupO K) (by rfl) T.z_tuple (by decide +kernel) (pa_cons (pv 6) pa_nil)) pa_nil))))))))))), ?_⟩
    refine ⟨.ref a, rfl, a, c, rfl, ha, fun H1 t m rv R d1 ht hrv okR => ⟨t, _, rfl, ht, rfl, _, _, rfl, _, _, rfl, rfl, ?_⟩⟩
    have m1 := okR.1
    have m6 := okR.2.1
    refine ⟨.ref a, rfl, zlN (by decide), fun p np => ?_⟩
    have d2 := d1.new (o := .lst [.int 0, .int 1, .int 1, .int 2, .int 3]) np
    refine ⟨a, c, p, _, rfl, d2.hand, upd_same, (d1.hand.fresh np).1, by decide, by decide, fun H2 x d3 hx => ?_⟩
    obtain ⟨k, rfl, k3⟩ : ∃ m : Nat, x = .int (m : Int) ∧ m ≤ 3 := by
      simp only [List.mem_cons, List.not_mem_nil, or_false] at hx
      rcases hx with rfl | rfl | rfl | rfl | rfl
      · exact ⟨0, rfl, by decide⟩
      · exact ⟨1, rfl, by decide⟩
      · exact ⟨1, rfl, by decide⟩
      · exact ⟨2, rfl, by decide⟩
      · exact ⟨3, rfl, by decide⟩
    have d4 := d2.trans d3
    have d24 : Drew a c H1 H2 := ((Drew.refl d1.hand).new np).trans d3
    have hrv2 := Drew.data d1.hand d24 (flat_R R) hrv
    refine ⟨(k : Int), rfl, by omega, by omega, fun D nD => lc_range (lo := 0) (n := ((k : Int)).toNat) (PvR K a c H2 D eK (okTask R)) (PvR.zero d4.hand nD) (fun i H3 hi hP => ?_) (fun H3 hP => ?_)⟩
    · refine ⟨rfl, yesT ⟨.ref a, rfl, rv, rfl, a, c, rv, m, R, rfl, hP.1.hand, Drew.data d4.hand hP.1 (flat_R R) hrv2, okR, fun H4 u tk d5 du ok => ?_⟩⟩
      exact PvR.step d4.hand hP nD (by omega) flat_K d5 ok du
    · obtain ⟨v3, acc, g, hD, hacc, hgl, hg⟩ := hP
      have hg3 : g.length ≤ 3 := by omega
      refine ⟨D, acc, rfl, .inl ⟨.inl (.inl hD), fun l nl => ?_⟩⟩
      have d6 := (d4.trans v3).new (o := .tup acc) nl
      have d26 := v3.new (o := .tup acc) nl
      have hgv : Dp K (upd H3 l (.tup acc)) (.ref l) (eT g) := Dp.new nl hacc
      have hrv3 := Drew.data d4.hand d26 (flat_R R) hrv2
      generalize upd H3 l (.tup acc) = H4 at d6 d26 hgv hrv3
      refine ⟨.int (m : Int), rfl, .ref l, rfl, m, .ref l, g, rfl, hgv, m1, m6, fun H5 u fp e5 hL nfp => ⟨zl0, fun D2 nD2 => ⟨u, .ref D2, rfl, ?_⟩⟩⟩
      have d7 := d6.same e5
      have pz : PvR K a c H5 D2 eE (okEv m) 0 (upd H5 D2 (.lst [])) := PvR.zero d7.hand nD2
      have afresh : ∀ {Hx : Hp} {fp : List Addr}, Hand Hx a c → (∀ b ∈ fp, Hx b = none) → a ∉ fp := fun {Hx fp} hh hf hm => by
        obtain ⟨_, _, _, _, _, h1, _⟩ := hh
        rw [hf a hm] at h1; cases h1
      have hDfp : D2 ∉ fp := fun hm => by
        have hb : ∃ o, H5 D2 = some o := by
          obtain ⟨t, pb, pd, ps, kvs, rfl, rfl, h1, h2, h3, h4, h5⟩ := hL
          simp only [List.mem_cons] at hm
          rcases hm with rfl | rfl | hm
          · exact ⟨_, h2⟩
          · exact ⟨_, h4⟩
          · obtain ⟨j, hj⟩ := List.mem_iff_getElem?.mp hm
            obtain ⟨ts, _, xs, hx, _⟩ := pd_getR h3 hj
            exact ⟨_, hx⟩
        obtain ⟨o, ho⟩ := hb
        rw [ho] at nD2; cases nD2
      have e6 := same_upd (o := .lst []) nD2
      have d8 := d7.new (o := .lst []) nD2
      refine ⟨.ref a, rfl, .int 60, rfl, _, _, rfl, rfl, a, c, 61, rfl, d8.hand, by decide, by decide, fun H6 nn d9 hnn => ⟨(nn : Int), rfl, by omega, by omega, for_range (lo := 0) (n := ((nn : Int)).toNat)
        (fun i σ H7 => ∃ y7 y8 v L fp, σ = [some (.ref a), some (.int 60), some (.int (m : Int)), some rv, some (.ref l), some v, some (.ref D2), y7, y8] ∧ PvR K a c H5 D2 eE (okEv m) i H7 ∧ IsLS K H7 v L fp ∧ a ∉ fp ∧ D2 ∉ fp ∧ GoodL m R (3 + 3 * i) L)
        ⟨none, none, u, firstL m g, fp, rfl, pz.drew d7.hand nD2 flat_E d9, (hL.same e6).drew d8.hand (afresh d6.hand nfp) d9, afresh d6.hand nfp, hDfp, goodL_first okR hg hg3⟩ (fun i σ H7 hi hP => ?_) (fun σ H7 hP => ?_)⟩⟩
      · obtain ⟨y7, y8, v, L, fp, rfl, hP, hL, hafp, hDfp, gd⟩ := hP
        refine ⟨.ref a, rfl, .int (m : Int), rfl, v, rfl, a, c, m, 3 + 3 * i, R, v, L, fp, rfl, hP.1.hand, hL, hafp, m1, m6, gd, by omega, fun H8 u e d10 du oe hne => ?_⟩
        obtain ⟨te, rfl, hte⟩ := eventD du
        have d5H8 := hP.1.trans d10
        have hrv8 := Drew.data d7.hand d5H8 (flat_R R) (Dp.same e5 _ _ hrv3)
        refine ⟨.int (m : Int), rfl, rv, rfl, v, rfl, .ref te, rfl, m, 3 + 3 * i, R, rv, v, te, L, fp, e, rfl, hrv8, okR, hL.drew hP.1.hand hafp d10, gd, by omega, du, oe, fun H9 u9 e9 hopt => ?_⟩
        cases hs : stepL m R L e with
        | none => exact absurd hs hne
        | some L' =>
          rw [hs] at hopt
          obtain ⟨fp', hL', hfp'⟩ := hopt
          obtain ⟨acc2, w1, w2, w3⟩ := PvR.step d7.hand hP nD2 (by omega) flat_E (d10.same e9) oe (Dp.same e9 _ _ du)
          have hD8 : ∃ o, H8 D2 = some o := by
            obtain ⟨_, acc3, _, hd, _⟩ := hP
            exact ⟨_, d10.but _ _ (d7.hand.fresh nD2).1 hd⟩
          have hDn : D2 ∉ fp' := fun hm => by
            obtain ⟨o, ho⟩ := hD8
            rw [hfp' _ hm] at ho; cases ho
          exact ⟨.ref D2, rfl, .inl ⟨rfl, _, .inl (.inl w1)⟩, .ref te, rfl, D2, acc2, .ref te, rfl, rfl, w1, w2, some (.int (0 + (i : Int))), some (.ref te), u9, L', fp', rfl, w3, hL'.upd w1 hDn, afresh d10.hand hfp', hDn, by
            have := goodL_step okR gd oe hs
            exact this.mono (by omega)⟩
      · obtain ⟨y7, y8, v, L, fp, rfl, hP, _⟩ := hP
        obtain ⟨v4, acc4, es, hD4, hacc4, hel, hes⟩ := hP
        have hrv9 := Drew.data d7.hand v4 (flat_R R) (Dp.same e5 _ _ hrv3)
        have hgv9 := Drew.data d7.hand v4 (flat_T g) (Dp.same e5 _ _ hgv)
        refine ⟨.int (m : Int), rfl, rv, rfl, .ref l, rfl, .ref D2, rfl, D2, acc4, rfl, .inl ⟨.inl (.inl hD4), fun p5 np5 => ⟨zlN (by show 4 ≤ 100; decide), fun t5 nt5 => ?_⟩⟩⟩
        have e10 := (same_upd (o := .tup acc4) np5).trans (same_upd (o := .tup [.int (m : Int), rv, .ref l, .ref p5]) nt5)
        exact q _ t5 m rv (.ref l) (.ref p5) R g es ((d7.trans v4).same e10) (.inl (.inl upd_same)) (Dp.same e10 _ _ hrv9) (Dp.same e10 _ _ hgv9) (Dp.same (same_upd nt5) _ _ (Dp.new np5 hacc4)) okR hg hg3 hes (by omega)
end
end Kq
namespace Kq
open PySem PySem.Spec PyProof.Rows
open L2 hiding CX0 E0 pass0 Fun fun_mk Fun.ok Fun.binds defArgs defBody defScope
open C8
/-! the law's standings; bent events; what is wrong -/
section
variable {P : Program} {w : World} {K : PySem.W.Frag} {mg : Str → Option Value} {base : Heap} {CW CR : Addr}
abbrev N_l_standings : List Str := ["_law_many_here", "_law_rules_here", "_law_given", "_law_events", "_law_found", "_law_event_here", "_law_later"]
theorem sc_l_standings : FnScope N_l_standings ["_law_many_here", "_law_rules_here", "_law_given", "_law_events"] (fnScope s_l_standings) := fnScope_by (by decide +kernel)
abbrev N_l_bent : List Str := ["_law_hand_here", "_law_many_here", "_law_events", "_law_at", "_law_to", "_law_some", "_law_way", "_law_left"]
theorem sc_l_bent : FnScope N_l_bent ["_law_hand_here", "_law_many_here", "_law_events"] (fnScope s_l_bent) := fnScope_by (by decide +kernel)
abbrev N_l_wrong : List Str := ["_law_events", "_law_standings_here", "_law_lies", "_law_last", "_law_at"]
theorem sc_l_wrong : FnScope N_l_wrong ["_law_events", "_law_standings_here"] (fnScope s_l_wrong) := fnScope_by (by decide +kernel)
def standingsL (m : Nat) (R : Rules) (s : LS) : List Ev → List LS
  | [] => [s]
  | e :: es => match stepL m R s e with
    | none => [s]
    | some s' => s :: standingsL m R s' es
theorem standingsL_none {m : Nat} {R : Rules} {s : LS} {e : Ev} {es : List Ev} (h : stepL m R s e = none) : standingsL m R s (e :: es) = [s] := by
  rw [standingsL, h]
theorem standingsL_some {m : Nat} {R : Rules} {s s' : LS} {e : Ev} {es : List Ev} (h : stepL m R s e = some s') : standingsL m R s (e :: es) = s :: standingsL m R s' es := by
  rw [standingsL, h]
theorem standingsL_len {m : Nat} {R : Rules} : ∀ (es : List Ev) (s : LS), 1 ≤ (standingsL m R s es).length ∧ (standingsL m R s es).length ≤ es.length + 1
  | [], s => ⟨by rw [standingsL]; simp, by rw [standingsL]; simp⟩
  | e :: es, s => by
    cases h : stepL m R s e with
    | none => rw [standingsL_none h]; simp
    | some s' =>
      rw [standingsL_some h, List.length_cons, List.length_cons]
      have := standingsL_len (m := m) (R := R) es s'
      omega
theorem standingsL_good {m : Nat} {R : Rules} (ok : okRules m R) : ∀ (es : List Ev) (s : LS) (n : Nat), (∀ e ∈ es, okEv m e) → GoodL m R n s → ∀ x ∈ standingsL m R s es, GoodL m R (n + 3 * es.length) x
  | [], s, n, _, g, x, hx => by
    rw [standingsL, List.mem_singleton] at hx
    subst hx; exact g
  | e :: es, s, n, oe, g, x, hx => by
    rw [List.length_cons]
    cases h : stepL m R s e with
    | none =>
      rw [standingsL_none h, List.mem_singleton] at hx
      subst hx; exact g.mono (by omega)
    | some s' =>
      rw [standingsL_some h, List.mem_cons] at hx
      rcases hx with rfl | hx
      · exact g.mono (by omega)
      · exact (standingsL_good ok es s' (n + 3) (fun e he => oe e (List.mem_cons_of_mem _ he)) (goodL_step ok g (oe e List.mem_cons_self) h) x hx).mono (by omega)
theorem IsLS.there {H : Hp} {v : V} {L : LS} {fp : List Addr} (h : IsLS K H v L fp) : ∀ b ∈ fp, ∃ o, H b = some o := fun b hb => by
  obtain ⟨t, pb, pd, ps, kvs, rfl, rfl, h1, h2, h3, h4, h5⟩ := h
  simp only [List.mem_cons] at hb
  rcases hb with rfl | rfl | hb
  · exact ⟨_, h2⟩
  · exact ⟨_, h4⟩
  · obtain ⟨j, hj⟩ := List.mem_iff_getElem?.mp hb
    obtain ⟨ts, _, xs, hx, _⟩ := pd_getR h3 hj
    exact ⟨_, hx⟩
def IsNew (K : PySem.W.Frag) (H0 H : Hp) (v : V) (L : LS) : Prop := ∃ fp, IsLS K H v L fp ∧ ∀ b ∈ fp, H0 b = none
theorem IsNew.same {H0 H H' : Hp} {v : V} {L : LS} (h : IsNew K H0 H v L) (e : Same H H') : IsNew K H0 H' v L := by
  obtain ⟨fp, h1, h2⟩ := h
  exact ⟨fp, h1.same e, h2⟩
theorem IsNew.drew {H0 H H' : Hp} {v : V} {L : LS} {a c : Addr} (h : IsNew K H0 H v L) (h0 : Hand H0 a c) (ha : Hand H a c) (d : Drew a c H H') : IsNew K H0 H' v L := by
  obtain ⟨fp, h1, h2⟩ := h
  refine ⟨fp, h1.drew ha (fun hm => ?_) d, h2⟩
  obtain ⟨_, _, _, _, _, q, _⟩ := h0
  rw [h2 a hm] at q; cases q
theorem pair_split {α β : Type} {F : α → β → Prop} : ∀ {xs : List α} {pre : List β} {s : β}, Paired F xs (pre ++ [s]) → ∃ ys y, xs = ys ++ [y] ∧ F y s
  | _, [], _, .cons h t => by cases t; exact ⟨[], _, rfl, h⟩
  | _, p :: pre, s, .cons h t => by
    obtain ⟨ys, y, rfl, f⟩ := pair_split t
    exact ⟨_ :: ys, y, rfl, f⟩
def spLStandings (K : PySem.W.Frag) : Sp := fun vs H Q _ => ∃ (m : Nat) (rv gv ev : V) (R : Rules) (g : List Task) (es : List Ev), vs = [.int (m : Int), rv, gv, ev] ∧ Dp K H rv (eR R) ∧ Dp K H gv (eT g) ∧ Dp K H ev (eEs es) ∧ okRec m R g es ∧
  ∀ H' p ys, Same H H' → H' p = some (.lst ys) → Paired (IsNew K H H') ys (standingsL m R (firstL m g) es) → Q (.ref p) H'
theorem c_l_standings (T : Tx K mg CW CR) : Cal P w K mg base 3 "_law_standings" (spLStandings K) [] := by
  have c_l_first := c_l_first (P := P) (w := w) (base := base) T
  have c_l_step := c_l_step (P := P) (w := w) (base := base) T
  obtain ⟨f, fd, F, df⟩ := T.d_l_standings.ex
  refine cal0 F (F.fn.binds df b_l_standings) .nil sc_l_standings (fun vs H Q E h => ?_) (fun cdv A outer s0 H vs Q E hr h => ?_)
  · obtain ⟨m, rv, gv, ev, R, g, es, rfl, _⟩ := h; rfl
  · obtain ⟨m, rv, gv, ev, R, g, es, rfl, hrv, hgv, hev, ok, q⟩ := h
    obtain ⟨okR, okg, lg, oke, le⟩ := ok
    obtain ⟨ea, exs, rfl, hea, hexs⟩ := tupD hev
    have hel : exs.length = es.length := by rw [DpAll.len hexs, List.length_map]
    have z := sizeLine_eq
    refine ⟨_, (pss_cons (ps_set (i := 4) sc_l_standings.nd rfl (.inl rfl) (pe_lst (pa_cons (pe_c c_l_first hr (by decide) (by rfl) (pa_cons (pv 0) (pa_cons (pv 2) pa_nil))) pa_nil)))
      (pss_cons (ps_for PassesOwn.never rfl (kiTup K (pv 3)) (pgn 5 sc_l_standings.nd)
        (pss_cons (ps_set (i := 6) sc_l_standings.nd rfl (.inl rfl) (pe_c c_l_step hr (by decide) (by rfl) (pa_cons (pv 0) (pa_cons (pv 1) (pa_cons (pe_ix (kixL K) (pv 4) (pe_un un_neg pe_int) (fun _ _ => rfl)) (pa_cons (pv 5) pa_nil))))))
        (pss_cons (ps_if (pt_cmpR op_isN (pv 6) pe_non (nomark _))
          (pss_one (ps_ret (pv 4))) pss_nil)
        (pss_one (ps_expr (pe_bm PySem.F.plainAttrs_list PySem.F.slot_list_append PySem.F.type_list_append mt_append (pv 4) (pa_cons (pv 6) pa_nil)))))))
      (pss_one (ps_ret (pv 4))))), ?_⟩
    refine ⟨.int (m : Int), rfl, gv, rfl, m, gv, g, rfl, hgv, okR.1, okR.2.1, fun H1 u fp e1 hL nfp => ⟨zl1, fun D nD => ?_⟩⟩
    have e2 := same_upd (o := .lst [u]) nD
    have e12 := e1.trans e2
    have nD0 : H D = none := e1.free nD
    have hDfp : D ∉ fp := fun hm => by
      obtain ⟨o, ho⟩ := hL.there _ hm
      rw [ho] at nD; cases nD
    refine ⟨.ref ea, rfl, ea, rfl, ⟨exs, SqT.same hea e12⟩,
      for_tup (xs := exs) (fun i σ H2 => ∃ y5 y6 ys pre s, σ = [some (.int (m : Int)), some rv, some gv, some (.ref ea), some (.ref D), y5, y6] ∧ Same H H2 ∧ H2 D = some (.lst ys) ∧ Paired (fun v L => ∃ fp, IsLS K H2 v L fp ∧ (∀ b ∈ fp, H b = none) ∧ D ∉ fp) ys (pre ++ [s]) ∧ standingsL m R (firstL m g) es = pre ++ standingsL m R s (es.drop i) ∧ GoodL m R (20 + 3 * i) s ∧ pre.length = i)
      ⟨none, none, [u], [], firstL m g, rfl, e12, upd_same, .cons ⟨fp, hL.same e2, nfp, hDfp⟩ .nil, rfl, goodL_first okR okg lg, rfl⟩ (fun i σ H2 _ hp => ?_) (fun i x σ H2 hi hp => ?_) (fun σ H2 hp => ?_)⟩
    · obtain ⟨_, _, _, _, _, _, e, _⟩ := hp
      exact SqT.same hea e
    · obtain ⟨y5, y6, ys, pre, s, rfl, e3, hD, hys, hst, gd, hpl⟩ := hp
      obtain ⟨e, he, de⟩ := item_of hexs hi
      have hie : i < es.length := (List.getElem?_eq_some_iff.mp he).1
      have hdrop := drop_get he
      have hyl : ys.length = i + 1 := by rw [pd_len hys, List.length_append, hpl]; rfl
      obtain ⟨ys0, yl, rfl, fpl, hLl, _, _⟩ := pair_split hys
      obtain ⟨te, rfl, hte⟩ := eventD de
      refine ⟨.int (m : Int), rfl, rv, rfl, .ref D, rfl, 1, rfl, D, ys0 ++ [yl], -1, yl, rfl, rfl, .inl (.inl hD), atI_last _ _, .ref te, rfl, ?_⟩
      refine ⟨m, 20 + 3 * i, R, rv, yl, te, s, fpl, e, rfl, Dp.same e3 _ _ hrv, okR, hLl, gd, by omega, Dp.same e3 _ _ de, oke e (List.mem_of_getElem? he), fun H3 u3 e4 hopt => ?_⟩
      refine ⟨u3, rfl, rfl, _, rfl, ?_⟩
      cases hs : stepL m R s e with
      | none =>
        rw [hs] at hopt
        have hopt : u3 = .non := hopt
        subst hopt
        refine iteT' (decide_eq_true rfl) ⟨.ref D, rfl, q _ D _ (e3.trans e4) (e4 _ _ hD) ?_⟩
        rw [hst, hdrop, standingsL_none hs]
        refine pd_keep hys fun a _ b hb => ?_
        obtain ⟨fp, h1, h2, _⟩ := hb
        exact ⟨fp, h1.same e4, h2⟩
      | some s' =>
        rw [hs] at hopt
        obtain ⟨fp', hL', hfp'⟩ := hopt
        have hne : decide (u3 = .non) = false := by
          obtain ⟨t, pb, pd, ps, kvs, _, rfl, _⟩ := hL'
          exact decide_eq_false fun z => nomatch z
        have hD3 := e4 _ _ hD
        have hDn : D ∉ fp' := fun hm => by
          rw [hfp' _ hm] at hD; cases hD
        have e5 : Same H (upd H3 D (.lst ((ys0 ++ [yl]) ++ [u3]))) := fun b o hb => by
          rw [upd_ne (ne_of_none hb nD0)]; exact e4 _ _ (e3 _ _ hb)
        refine iteF' hne ⟨.ref D, rfl, .inl ⟨rfl, _, .inl (.inl hD3)⟩, u3, rfl, D, _, u3, rfl, rfl, hD3, by omega, some (.ref te), some u3, _, pre ++ [s], s', rfl, e5, upd_same, ?_, ?_, (goodL_step okR gd (oke e (List.mem_of_getElem? he)) hs).mono (by omega), by rw [List.length_append, hpl]; rfl⟩
        · refine Paired.snoc (pd_keep hys fun a _ b hb => ?_) ⟨fp', hL'.upd hD3 hDn, fun b hb => e3.free (hfp' b hb), hDn⟩
          obtain ⟨fp, h1, h2, h3⟩ := hb
          exact ⟨fp, (h1.same e4).upd hD3 h3, h2, h3⟩
        · rw [hst, hdrop, standingsL_some hs, List.append_assoc]; rfl
    · obtain ⟨y5, y6, ys, pre, s, rfl, e3, hD, hys, hst, gd, hpl⟩ := hp
      refine ⟨.ref D, rfl, q _ D _ e3 hD ?_⟩
      rw [hst, hel, List.drop_length, standingsL]
      refine pd_keep hys fun a _ b hb => ?_
      obtain ⟨fp, h1, h2, _⟩ := hb
      exact ⟨fp, h1, h2⟩
/-- _law_bent -/
theorem cut_mid (xs : List V) (n : Nat) (h : n < xs.length) : cutV xs (some (n : Int)) (some ((n : Int) + 1)) = (xs.drop n).take 1 := by
  unfold cutV
  rw [show (n : Int) + 1 = ((n + 1 : Nat) : Int) from rfl, HT.sIx_nat, HT.sIx_nat, Nat.min_eq_left (by omega), Nat.min_eq_left (by omega), show n + 1 - n = 1 by omega]
def spLBent (K : PySem.W.Frag) : Sp := fun vs H Q _ => ∃ (a c : Addr) (m : Nat) (v : V) (es : List Ev), vs = [.ref a, .int (m : Int), v] ∧ Hand H a c ∧ 1 ≤ m ∧ m ≤ 6 ∧ Dp K H v (eEs es) ∧ (∀ e ∈ es, okEv m e) ∧ es.length ≤ 100 ∧
  ∀ H' u es', Drew a c H H' → Dp K H' u (eEs es') → (∀ e ∈ es', okEv m e) → es'.length ≤ es.length + 1 → Q u H'
theorem c_l_bent (T : Tx K mg CW CR) : Cal P w K mg base 3 "_law_bent" (spLBent K) [] := by
  have c_l_draw := c_l_draw (P := P) (w := w) (base := base) T
  have c_l_any := c_l_any (P := P) (w := w) (base := base) T
  obtain ⟨f, fd, F, df⟩ := T.d_l_bent.ex
  refine cal0 F (F.fn.binds df b_l_bent) .nil sc_l_bent (fun vs H Q E h => ?_) (fun cdv A outer s0 H vs Q E hr h => ?_)
  · obtain ⟨a, c, m, v, es, rfl, _⟩ := h; rfl
  · obtain ⟨a, c, m, v, es, rfl, ha, m1, m6, hv, oe, le, q⟩ := h
    obtain ⟨t, xs, rfl, ht, hxs⟩ := tupD hv
    have hl : xs.length = es.length := by rw [DpAll.len hxs, List.length_map]
    have z := sizeLine_eq
    refine ⟨_, (pss_cons (ps_if (pt_cmpR op_eq (pe_callB (klen K) (by rfl) T.z_len (by decide +kernel) (pa_cons (pv 2) pa_nil)) pe_int (nomark _))
        (pss_one (ps_ret (pe_tup (pa_cons (pe_tup (pa_cons pe_str (pa_cons (pe_op op_sub (pv 1) pe_int) pa_nil))) pa_nil)))) pss_nil)
      (pss_cons (ps_par (i := 3) (j := 4) (by rfl) sc_l_bent.nd rfl rfl (by decide) rfl rfl (pa_cons (pe_c c_l_draw hr (by decide) (by rfl) (pa_cons (pv 0) (pa_cons (pe_callB (klen K) (by rfl) T.z_len (by decide +kernel) (pa_cons (pv 2) pa_nil)) pa_nil))) (pa_cons (pe_c c_l_draw hr (by decide) (by rfl) (pa_cons (pv 0) (pa_cons (pe_callB (klen K) (by rfl) T.z_len (by decide +kernel) (pa_cons (pv 2) pa_nil)) pa_nil))) pa_nil)) (by rfl))
      (pss_cons (ps_set (i := 5) sc_l_bent.nd rfl (.inl rfl) (pe_lst (pa_cons (pe_tup (pa_cons pe_str (pa_cons (pe_c c_l_draw hr (by decide) (by rfl) (pa_cons (pv 0) (pa_cons (pv 1) pa_nil))) pa_nil))) (pa_cons (pe_tup (pa_cons pe_str (pa_cons (pe_c c_l_draw hr (by decide) (by rfl) (pa_cons (pv 0) (pa_cons (pv 1) pa_nil))) (pa_cons (pe_c c_l_draw hr (by decide) (by rfl) (pa_cons (pv 0) (pa_cons (pv 1) pa_nil))) pa_nil)))) pa_nil))))
      (pss_cons (ps_set (i := 6) sc_l_bent.nd rfl (.inl rfl) (pe_c c_l_draw hr (by decide) (by rfl) (pa_cons (pv 0) (pa_cons pe_int pa_nil))))
      (pss_cons (ps_if (pt_cmpR op_eq (pv 6) pe_int (nomark _))
        (pss_one (ps_ret (pe_op (kcat K) (pe_slice (kslT K) (pv 2) po_none (po_some (pv 3))) (pe_slice (kslT K) (pv 2) (po_some (pe_op op_add (pv 3) pe_int)) po_none)))) pss_nil)
      (pss_cons (ps_if (pt_cmpR op_eq (pv 6) pe_int (nomark _))
        (pss_one (ps_ret (pe_op (kcat K) (pe_op (kcat K) (pe_slice (kslT K) (pv 2) po_none (po_some (pv 3))) (pe_slice (kslT K) (pv 2) (po_some (pv 3)) (po_some (pe_op op_add (pv 3) pe_int)))) (pe_slice (kslT K) (pv 2) (po_some (pv 3)) po_none)))) pss_nil)
      (pss_cons (ps_if (pt_cmpR op_eq (pv 6) pe_int (nomark _))
        (pss_cons (ps_set (i := 7) sc_l_bent.nd rfl (.inl rfl) (pe_op (kcat K) (pe_slice (kslT K) (pv 2) po_none (po_some (pv 3))) (pe_slice (kslT K) (pv 2) (po_some (pe_op op_add (pv 3) pe_int)) po_none)))
        (pss_one (ps_ret (pe_op (kcat K) (pe_op (kcat K) (pe_slice (kslT K) (pv 7) po_none (po_some (pv 4))) (pe_slice (kslT K) (pv 2) (po_some (pv 3)) (po_some (pe_op op_add (pv 3) pe_int)))) (pe_slice (kslT K) (pv 7) (po_some (pv 4)) po_none))))) pss_nil)
      (pss_one (ps_ret (pe_op (kcat K) (pe_op (kcat K) (pe_slice (kslT K) (pv 2) po_none (po_some (pv 3))) (pe_tup (pa_cons (pe_c c_l_any hr (by decide) (by rfl) (pa_cons (pv 0) (pa_cons (pv 5) pa_nil))) pa_nil))) (pe_slice (kslT K) (pv 2) (po_some (pe_op op_sub (pe_op op_add (pv 3) (pv 6)) pe_int)) po_none))))))))))), ?_⟩
    refine ⟨.ref t, rfl, t, xs, rfl, .inr ht, rfl, _, rfl, ite2 (fun cc => ?_) (fun cc => ?_)⟩
    · refine ⟨.int (m : Int), rfl, _, _, rfl, rfl, zl2, fun p np => ⟨zl1, fun u nu => ?_⟩⟩
      refine q _ _ [.doo (m - 1)] (((Drew.refl ha).new np).new nu) (Dp.new nu (.cons (Dp.new np (.cons (.str _) (.cons ?_ .nil))) .nil)) (fun e he => ?_) (by show 1 ≤ _; omega)
      · have hm1 : (m : Int) - 1 = ((m - 1 : Nat) : Int) := by omega
        show Dp K H (.int ((m : Int) - 1)) (.int ((m - 1 : Nat) : Int))
        rw [hm1]; exact .int _
      · rw [List.mem_singleton] at he
        subst he
        show m - 1 < m
        omega
    · have hn0 : 1 ≤ xs.length := by
        have : xs.length ≠ 0 := fun zz => cc (decide_eq_true (by rw [zz]; rfl))
        omega
      refine ⟨.ref a, rfl, .ref t, rfl, t, xs, rfl, .inr ht, a, c, xs.length, rfl, ha, hn0, by omega, fun H1 at_ d1 hat => ?_⟩
      refine ⟨.ref a, rfl, .ref t, rfl, t, xs, rfl, .inr (ha.kt d1.but _ _ ht), a, c, xs.length, rfl, d1.hand, hn0, by omega, fun H2 to_ d2 hto => ⟨_, _, rfl, ?_⟩⟩
      refine ⟨.ref a, rfl, .int (m : Int), rfl, a, c, m, rfl, d2.hand, m1, by omega, fun H3 x1 d3 hx1 => ⟨zl2, fun p1 np1 => ?_⟩⟩
      have b1 : Dp K (upd H3 p1 (.tup [.str "do", .int (x1 : Int)])) (.ref p1) (eE (.doo x1)) := Dp.new np1 (.cons (.str _) (.cons (.int _) .nil))
      have f1 := ((d1.trans d2).trans d3).new (o := .tup [.str "do", .int (x1 : Int)]) np1
      generalize upd H3 p1 (.tup [.str "do", .int (x1 : Int)]) = H4 at b1 f1
      refine ⟨.ref a, rfl, .int (m : Int), rfl, a, c, m, rfl, f1.hand, m1, by omega, fun H5 x2 d5 hx2 => ⟨.ref a, rfl, .int (m : Int), rfl, a, c, m, rfl, d5.hand, m1, by omega, fun H6 x3 d6 hx3 => ⟨zl3, fun p2 np2 => ⟨zl2, fun p3 np3 => ?_⟩⟩⟩⟩
      have b2 : Dp K (upd H6 p2 (.tup [.str "hear", .int (x2 : Int), .int (x3 : Int)])) (.ref p2) (eE (.hear x2 x3)) := Dp.new np2 (.cons (.str _) (.cons (.int _) (.cons (.int _) .nil)))
      have g46 := (d5.trans d6).new (o := .tup [.str "hear", .int (x2 : Int), .int (x3 : Int)]) np2
      have f2 := f1.trans g46
      have b1' := Drew.data f1.hand g46 (flat_E _) b1
      generalize upd H6 p2 (.tup [.str "hear", .int (x2 : Int), .int (x3 : Int)]) = H7 at b2 g46 f2 b1' np3
      have e7 := same_upd (o := .lst [.ref p1, .ref p2]) np3
      have hp3 : upd H7 p3 (.lst [.ref p1, .ref p2]) p3 = some (.lst [.ref p1, .ref p2]) := upd_same
      have f3 := f2.new (o := .lst [.ref p1, .ref p2]) np3
      have b1'' := Dp.same e7 _ _ b1'
      have b2'' := Dp.same e7 _ _ b2
      have hp3a := (f2.hand.fresh np3).1
      generalize upd H7 p3 (.lst [.ref p1, .ref p2]) = H8 at e7 hp3 f3 b1'' b2''
      refine ⟨.ref a, rfl, a, c, 5, rfl, f3.hand, by decide, by decide, fun H9 wy d9 hwy => ?_⟩
      have f4 := f3.trans d9
      have ht9 := ha.kt f4.but _ _ ht
      have hxs9 := DpAll.kt (ha.kt f4.but) _ _ (flatDs_map _ flat_E _) hxs
      have ok_td : ∀ n, ∀ e ∈ es.take n, okEv m e := fun n e he => oe e (List.mem_of_mem_take he)
      have ok_dr : ∀ n, ∀ e ∈ es.drop n, okEv m e := fun n e he => oe e (List.mem_of_mem_drop he)
      have tk : ∀ n {H : Hp} {ys : List V} {l : List Ev}, DpAll K H ys (l.map eE) → DpAll K H (ys.take n) ((l.take n).map eE) := fun n H ys l h => by rw [List.map_take]; exact DpAll.take n h
      have dr : ∀ n {H : Hp} {ys : List V} {l : List Ev}, DpAll K H ys (l.map eE) → DpAll K H (ys.drop n) ((l.drop n).map eE) := fun n H ys l h => by rw [List.map_drop]; exact DpAll.drop n h
      have ap : ∀ {H : Hp} {ys zs : List V} {l k : List Ev}, DpAll K H ys (l.map eE) → DpAll K H zs (k.map eE) → DpAll K H (ys ++ zs) ((l ++ k).map eE) := fun {H ys zs l k} h g => by rw [List.map_append]; exact DpAll.app h g
      have okA : ∀ {l k : List Ev}, (∀ e ∈ l, okEv m e) → (∀ e ∈ k, okEv m e) → ∀ e ∈ l ++ k, okEv m e := fun {l k} h g e he => (List.mem_append.mp he).elim (h e) (g e)
      refine ⟨.int (wy : Int), rfl, rfl, _, rfl, ite2 (fun c0 => ?_) (fun c0 => ?_)⟩
      · refine ⟨.ref t, rfl, .int (at_ : Int), rfl, at_, rfl, ?_⟩
        unfold tNoPart
        refine slA_mk ht9 fun G1 q1 s1 w1 => ⟨.ref t, rfl, .int (at_ : Int), rfl, _, _, rfl, rfl, (at_ : Int) + 1, rfl, slA_mk (SqT.same ht9 s1) fun G2 q2 s2 w2 => ?_⟩
        rw [cut_to] at w1
        rw [show (at_ : Int) + 1 = ((at_ + 1 : Nat) : Int) from rfl, cut_from] at w2
        refine catA_mk (SqT.same w1 s2) w2 (by rw [List.length_take, List.length_drop]; omega) fun G3 q3 s3 w3 => ?_
        have s123 := s1.trans (s2.trans s3)
        exact q _ _ (es.take at_ ++ es.drop (at_ + 1)) (f4.same s123) (.tup w3 (DpAll.same s123 _ _ (ap (tk at_ hxs9) (dr (at_ + 1) hxs9)))) (okA (ok_td _) (ok_dr _)) (by rw [List.length_append, List.length_take, List.length_drop]; omega)
      refine ⟨.int (wy : Int), rfl, rfl, _, rfl, ite2 (fun c1 => ?_) (fun c1 => ?_)⟩
      · refine ⟨.ref t, rfl, .int (at_ : Int), rfl, at_, rfl, ?_⟩
        unfold tNoPart
        refine slA_mk ht9 fun G1 q1 s1 w1 => ⟨.ref t, rfl, .int (at_ : Int), rfl, at_, rfl, .int (at_ : Int), rfl, _, _, rfl, rfl, (at_ : Int) + 1, rfl, slA_mk (SqT.same ht9 s1) fun G2 q2 s2 w2 => ?_⟩
        rw [cut_to] at w1
        rw [cut_mid _ _ hat] at w2
        refine catA_mk (SqT.same w1 s2) w2 (by rw [List.length_take, List.length_take, List.length_drop]; omega) fun G3 q3 s3 w3 => ?_
        refine ⟨.ref t, rfl, .int (at_ : Int), rfl, at_, rfl, slA_mk (SqT.same ht9 (s1.trans (s2.trans s3))) fun G4 q4 s4 w4 => ?_⟩
        rw [cut_from] at w4
        refine catA_mk (SqT.same w3 s4) w4 (by simp only [List.length_append, List.length_take, List.length_drop]; omega) fun G5 q5 s5 w5 => ?_
        have s15 := s1.trans (s2.trans (s3.trans (s4.trans s5)))
        exact q _ _ (es.take at_ ++ (es.drop at_).take 1 ++ es.drop at_) (f4.same s15) (.tup w5 (DpAll.same s15 _ _ (ap (ap (tk at_ hxs9) (tk 1 (dr at_ hxs9))) (dr at_ hxs9)))) (okA (okA (ok_td _) fun e he => ok_dr at_ e (List.mem_of_mem_take he)) (ok_dr _)) (by simp only [List.length_append, List.length_take, List.length_drop]; omega)
      refine ⟨.int (wy : Int), rfl, rfl, _, rfl, ite2 (fun c2 => ?_) (fun c2 => ?_)⟩
      · refine ⟨.ref t, rfl, .int (at_ : Int), rfl, at_, rfl, ?_⟩
        unfold tNoPart
        refine slA_mk ht9 fun G1 q1 s1 w1 => ⟨.ref t, rfl, .int (at_ : Int), rfl, _, _, rfl, rfl, (at_ : Int) + 1, rfl, slA_mk (SqT.same ht9 s1) fun G2 q2 s2 w2 => ?_⟩
        rw [cut_to] at w1
        rw [show (at_ : Int) + 1 = ((at_ + 1 : Nat) : Int) from rfl, cut_from] at w2
        refine catA_mk (SqT.same w1 s2) w2 (by rw [List.length_take, List.length_drop]; omega) fun G3 q3 s3 w3 => ?_
        have s13 := s1.trans (s2.trans s3)
        have ll : (xs.take at_ ++ xs.drop (at_ + 1)).length = xs.length - 1 := by simp only [List.length_append, List.length_take, List.length_drop]; omega
        have dl := DpAll.same s13 _ _ (ap (tk at_ hxs9) (dr (at_ + 1) hxs9))
        have ht13 := SqT.same ht9 s13
        have hx13 := DpAll.same s13 _ _ hxs9
        refine ⟨.ref q3, rfl, .int (to_ : Int), rfl, to_, rfl, slA_mk w3 fun G4 q4 s4 w4 => ⟨.ref t, rfl, .int (at_ : Int), rfl, at_, rfl, .int (at_ : Int), rfl, _, _, rfl, rfl, (at_ : Int) + 1, rfl, slA_mk (SqT.same ht13 s4) fun G5 q5 s5 w5 => ?_⟩⟩
        rw [cut_to] at w4
        rw [cut_mid _ _ hat] at w5
        refine catA_mk (SqT.same w4 s5) w5 (by rw [List.length_take, List.length_take, List.length_drop]; omega) fun G6 q6 s6 w6 => ?_
        have s46 := s4.trans (s5.trans s6)
        refine ⟨.ref q3, rfl, .int (to_ : Int), rfl, to_, rfl, slA_mk (SqT.same w3 s46) fun G7 q7 s7 w7 => ?_⟩
        rw [cut_from] at w7
        refine catA_mk (SqT.same w6 s7) w7 (by simp only [List.length_append, List.length_take, List.length_drop]; omega) fun G8 q8 s8 w8 => ?_
        have s48 := s46.trans (s7.trans s8)
        exact q _ _ ((es.take at_ ++ es.drop (at_ + 1)).take to_ ++ (es.drop at_).take 1 ++ (es.take at_ ++ es.drop (at_ + 1)).drop to_) (f4.same (s13.trans s48)) (.tup w8 (DpAll.same s48 _ _ (ap (ap (tk to_ dl) (tk 1 (dr at_ hx13))) (dr to_ dl))))
          (okA (okA (fun e he => okA (ok_td _) (ok_dr _) e (List.mem_of_mem_take he)) fun e he => ok_dr at_ e (List.mem_of_mem_take he)) fun e he => okA (ok_td _) (ok_dr _) e (List.mem_of_mem_drop he)) (by simp only [List.length_append, List.length_take, List.length_drop]; omega)
      · have hw3 : 3 ≤ wy := by
          have h0 : wy ≠ 0 := fun zz => c0 (decide_eq_true (by rw [zz]; rfl))
          have h1 : wy ≠ 1 := fun zz => c1 (decide_eq_true (by rw [zz]; rfl))
          have h2 : wy ≠ 2 := fun zz => c2 (decide_eq_true (by rw [zz]; rfl))
          omega
        refine ⟨.ref t, rfl, .int (at_ : Int), rfl, at_, rfl, ?_⟩
        unfold tNoPart
        refine slA_mk ht9 fun G1 q1 s1 w1 => ⟨.ref a, rfl, .ref p3, rfl, a, c, p3, _, rfl, (f4.same s1).hand, s1 _ _ (d9.but _ _ hp3a hp3), hp3a, (by show 1 ≤ 2; decide), (by show 2 ≤ 1000; decide), fun G2 x s2 hx => ⟨zl1, fun q2 nq2 => ?_⟩⟩
        rw [cut_to] at w1
        obtain ⟨e, oe2, de⟩ : ∃ e, okEv m e ∧ Dp K H8 x (eE e) := by
          simp only [List.mem_cons, List.not_mem_nil, or_false] at hx
          rcases hx with rfl | rfl
          · exact ⟨.doo x1, hx1, b1''⟩
          · exact ⟨.hear x2 x3, ⟨hx2, hx3⟩, b2''⟩
        have g9 : Drew a c H9 (upd G2 q2 (.tup [x])) := (((Drew.refl f4.hand).same s1).trans s2).new nq2
        have g8 := d9.trans g9
        have w1' := (f4.same s1).hand.kt ((s2.new (o := .tup [x]) nq2).but) _ _ w1
        refine catA_mk w1' (.inl (.inl upd_same)) (by rw [List.length_take]; show _ + 1 ≤ _; omega) fun G3 q3 s3 w3 => ?_
        have hidx : (at_ : Int) + (wy : Int) - 3 = ((at_ + wy - 3 : Nat) : Int) := by omega
        refine ⟨.ref t, rfl, .int (at_ : Int), rfl, .int (wy : Int), rfl, _, _, rfl, rfl, _, _, rfl, rfl, (at_ : Int) + (wy : Int) - 3, rfl, slA_mk (SqT.same (f4.hand.kt g9.but _ _ ht9) s3) fun G4 q4 s4 w4 => ?_⟩
        rw [hidx, cut_from] at w4
        refine catA_mk (SqT.same w3 s4) w4 (by simp only [List.length_append, List.length_take, List.length_drop, List.length_cons, List.length_nil]; omega) fun G5 q5 s5 w5 => ?_
        have s35 := s3.trans (s4.trans s5)
        have hx9 := DpAll.kt (f4.hand.kt g9.but) _ _ (flatDs_map _ flat_E _) hxs9
        have de9 := Drew.data f3.hand g8 (flat_E _) de
        refine q _ _ (es.take at_ ++ [e] ++ es.drop (at_ + wy - 3)) ((f4.trans g9).same s35) (.tup w5 (DpAll.same s35 _ _ (ap (ap (tk at_ hx9) (k := [e]) (.cons de9 .nil)) (dr _ hx9)))) (okA (okA (ok_td _) fun e' he' => by rw [List.mem_singleton] at he'; subst he'; exact oe2) (ok_dr _)) ?_
        simp only [List.length_append, List.length_take, List.length_drop, List.length_cons, List.length_nil]; omega
/-- _law_wrong -/
def liesL (es : List Ev) (Ls : List LS) : List Nat := (List.range (Ls.length - 1)).filter fun i => ((es[i]?).map isSay).getD false && !((Ls[i]?).map quietL).getD true
def wrongL (es : List Ev) (Ls : List LS) : Option (Nat × Str) := match liesL es Ls with
  | i :: _ => some (i, "lie")
  | [] => if Ls.length - 1 = es.length then none else some (Ls.length - 1, if ((es[Ls.length - 1]?).map isDo).getD false = true then "idle" else "empty")
def spLWrong (K : PySem.W.Frag) : Sp := fun vs H Q _ => ∃ (v : V) (p : Addr) (es : List Ev) (ys : List V) (Ls : List LS), vs = [v, .ref p] ∧ Dp K H v (eEs es) ∧ H p = some (.lst ys) ∧ Paired (fun v L => ∃ fp, IsLS K H v L fp) ys Ls ∧ (∀ L ∈ Ls, L.1.length ≤ 1000 ∧ L.2.length ≤ 1000) ∧
  1 ≤ Ls.length ∧ Ls.length ≤ es.length + 1 ∧ es.length ≤ 200 ∧ ∀ H' t x y, Same H H' → SqT K H' t [x, y] → Dp K H' x (eWr (wrongL es Ls)) → Dp K H' y (eLs (liesL es Ls)) → Q (.ref t) H'
theorem c_l_wrong (T : Tx K mg CW CR) : Cal P w K mg base 2 "_law_wrong" (spLWrong K) [] := by
  have c_l_is_quiet := c_l_is_quiet (P := P) (w := w) (base := base) T
  obtain ⟨f, fd, F, df⟩ := T.d_l_wrong.ex
  refine cal0 F (F.fn.binds df b_l_wrong) .nil sc_l_wrong (fun vs H Q E h => ?_) (fun cdv A outer s0 H vs Q E hr h => ?_)
  · obtain ⟨v, p, es, ys, Ls, rfl, _⟩ := h; rfl
  · obtain ⟨v, p, es, ys, Ls, rfl, hv, hp, hys, hsz, l1, l2, l3, q⟩ := h
    obtain ⟨ea, exs, rfl, hea, hexs⟩ := tupD hv
    have hel : exs.length = es.length := by rw [DpAll.len hexs, List.length_map]
    have hyl : ys.length = Ls.length := pd_len hys
    have z := sizeLine_eq
    refine ⟨_, (pss_cons (ps_setLc (own := [("_law_at", 4)]) (i := 2) (by rfl) sc_l_wrong.nd rfl rfl (sw_true rfl rfl rfl (by decide +kernel)) (pi_range1 (by rfl) T.z_range (pa_cons (pe_op op_sub (pe_callB (klen K) (by rfl) T.z_len (by decide +kernel) (pa_cons (pv 1) pa_nil)) pe_int) pa_nil)) (blkOk_by (N := N_l_wrong) (sc := fnScope s_l_wrong) (by decide +kernel)) (fun _ _ _ _ _ => (pgn 4 sc_l_wrong.nd)) (fun _ _ _ _ _ => (pts_one (PW.pt (pw_and (pt_cmpR op_eq (pe_ix (kixT K) (pe_ix (kixT K) (pv 0) (pv 4) (fun _ _ => rfl)) pe_int (fun _ _ => rfl)) pe_str (nomark _)) (pw_and1 (pt_not (pt_val (pe_c c_l_is_quiet hr (by decide) (by rfl) (pa_cons (pe_ix (kixL K) (pv 1) (pv 4) (fun _ _ => rfl)) pa_nil))))))))) (fun _ _ _ _ _ => (pv 4)))
      (pss_cons (ps_set (i := 3) sc_l_wrong.nd rfl (.inl rfl) (pe_op op_sub (pe_callB (klen K) (by rfl) T.z_len (by decide +kernel) (pa_cons (pv 1) pa_nil)) pe_int))
      (pss_cons (ps_if (pt_cmpR op_gt (pe_callB (klen K) (by rfl) T.z_len (by decide +kernel) (pa_cons (pv 2) pa_nil)) pe_int (nomark _))
        (pss_one (ps_ret (pe_tup (pa_cons (pe_tup (pa_cons (pe_ix (kixL K) (pv 2) pe_int (fun _ _ => rfl)) (pa_cons pe_str pa_nil))) (pa_cons (pe_callTy (ktupO K) (by rfl) T.z_tuple (by decide +kernel) (pa_cons (pv 2) pa_nil)) pa_nil))))) pss_nil)
      (pss_cons (ps_if (pt_cmpR op_eq (pv 3) (pe_callB (klen K) (by rfl) T.z_len (by decide +kernel) (pa_cons (pv 0) pa_nil)) (nomark _))
        (pss_one (ps_ret (pe_tup (pa_cons pe_non (pa_cons (pe_tup pa_nil) pa_nil))))) pss_nil)
      (pss_one (ps_ret (pe_tup (pa_cons (pe_tup (pa_cons (pv 3) (pa_cons (pe_ifExp (pt_cmpR op_eq (pe_ix (kixT K) (pe_ix (kixT K) (pv 0) (pv 3) (fun _ _ => rfl)) pe_int (fun _ _ => rfl)) pe_str (nomark _)) pe_str pe_str) pa_nil))) (pa_cons (pe_tup pa_nil) pa_nil))))))))), ?_⟩
    refine ⟨.ref p, rfl, p, ys, rfl, .inl (.inl (.inl hp)), _, _, rfl, rfl, (ys.length : Int) - 1, rfl, by omega, by omega, fun D nD => lc_range (lo := 0) (n := ((ys.length : Int) - 1).toNat) (PvM K H D (List.range (Ls.length - 1)) (fun i => ((es[i]?).map isSay).getD false && !((Ls[i]?).map quietL).getD true) dI) (PvM.zero nD) (fun i H2 hi hP => ?_) (fun H2 hP => ?_)⟩
    · have hz : (0 : Int) + (i : Int) = (i : Int) := by omega
      rw [hz]
      have e2 := hP.same
      have hi2 : i < Ls.length - 1 := by omega
      have hri : (List.range (Ls.length - 1))[i]? = some i := by rw [List.getElem?_range hi2]
      obtain ⟨e, he⟩ : ∃ e, es[i]? = some e := ⟨_, List.getElem?_eq_getElem (by omega)⟩
      obtain ⟨s, hs⟩ : ∃ s, Ls[i]? = some s := ⟨_, List.getElem?_eq_getElem (by omega)⟩
      obtain ⟨x, hx, dx⟩ := item_at hexs he
      obtain ⟨t, rfl, ht⟩ := eventD (Dp.same e2 _ _ dx)
      obtain ⟨y, hy, fp, hL⟩ := pd_getL hys hs
      have hsm := hsz s (List.mem_of_getElem? hs)
      refine ⟨rfl, .ref ea, rfl, .int (i : Int), rfl, ea, exs, i, .ref t, rfl, rfl, SqT.same hea e2, atI_nat hx, t, _, 0, .str (evW e), rfl, rfl, ht, atI_nat (j := 0) (evV_0 e), rfl, _, rfl, ?_⟩
      rw [w_say]
      refine ite2 (fun c => ?_) (fun c => ?_)
      · refine ⟨.ref p, rfl, .int (i : Int), rfl, p, ys, i, y, rfl, rfl, .inl (.inl (e2 _ _ hp)), atI_nat hy, y, s, fp, rfl, hL.same e2, hsm.1, hsm.2, fun H3 e3 => ⟨_, rfl, ?_⟩⟩
        refine ite2 (fun c2 => ?_) (fun c2 => ?_)
        · refine ⟨.int (i : Int), rfl, hP.step nD (by rw [List.length_range]; omega) hri ?_ (fun _ => rfl) e3 (.int _)⟩
          rw [he, hs]
          show (isSay e && !quietL s) = true
          rw [c, c2]; rfl
        · refine hP.skip hri ?_ e3
          rw [he, hs]
          show (isSay e && !quietL s) = false
          rw [Bool.eq_false_iff.mpr c2, Bool.and_false]
      · refine iteF (hP.skip hri ?_ (Same.refl _))
        rw [he, hs]
        show (isSay e && !quietL s) = false
        rw [Bool.eq_false_iff.mpr c, Bool.false_and]
    · obtain ⟨s1, acc, hD, hacc⟩ := hP.done (by rw [List.length_range]; omega)
      have hacc : DpAll K H2 acc ((liesL es Ls).map dI) := hacc
      have hal : acc.length = (liesL es Ls).length := by rw [DpAll.len hacc, List.length_map]
      refine ⟨.ref p, rfl, p, ys, rfl, .inl (.inl (.inl (s1 _ _ hp))), _, _, rfl, rfl, ?_⟩
      refine ⟨.ref D, rfl, D, acc, rfl, .inl (.inl (.inl hD)), _, _, rfl, rfl, _, rfl, ite2 (fun c => ?_) (fun c => ?_)⟩
      · have c' : (0 : Int) < (acc.length : Int) := of_decide_eq_true c
        cases hlp : liesL es Ls with
        | nil => rw [hlp] at hal; rw [hal] at c'; exact absurd c' (by decide)
        | cons i r =>
          rw [hlp] at hacc
          have hw : wrongL es Ls = some (i, ("lie" : Str)) := by unfold wrongL; rw [hlp]
          obtain ⟨x, xr, rfl, dx, dxr⟩ := consD hacc
          have := intD dx
          subst this
          refine ⟨.ref D, rfl, D, _, 0, .int (i : Int), rfl, rfl, .inl (.inl hD), atI_nat (j := 0) rfl, zl2, fun t nt => ?_⟩
          have e3 := same_upd (o := .tup [.int (i : Int), .str "lie"]) nt
          have b1 : Dp K (upd H2 t (.tup [.int (i : Int), .str "lie"])) (.ref t) (eWr (some (i, "lie"))) := Dp.new nt (.cons (.int _) (.cons (.str _) .nil))
          refine ⟨.ref D, rfl, D, _, rfl, .inl ⟨.inl (.inl (e3 _ _ hD)), fun t2 nt2 => ⟨zl2, fun t3 nt3 => ?_⟩⟩⟩
          have e4 := same_upd (o := .tup (.int (i : Int) :: xr)) nt2
          have e5 := same_upd (o := .tup [.ref t, .ref t2]) nt3
          refine q _ t3 (.ref t) (.ref t2) (s1.trans (e3.trans (e4.trans e5))) (.inl (.inl upd_same)) ?_ ?_
          · rw [hw]; exact Dp.same (e4.trans e5) _ _ b1
          · rw [hlp]; exact Dp.same e5 _ _ (Dp.new nt2 (DpAll.same e3 _ _ hacc))
      · have c' : ¬ (0 : Int) < (acc.length : Int) := fun zz => c (decide_eq_true zz)
        have hlp : liesL es Ls = [] := List.eq_nil_of_length_eq_zero (by omega)
        refine ⟨.int ((ys.length : Int) - 1), rfl, .ref ea, rfl, ea, exs, rfl, .inr (SqT.same hea s1), rfl, _, rfl, ite2 (fun c2 => ?_) (fun c2 => ?_)⟩
        · have c2' := V.int.inj (of_decide_eq_true c2)
          have hw : wrongL es Ls = none := by
            unfold wrongL; rw [hlp]
            show (if Ls.length - 1 = es.length then none else _) = none
            rw [if_pos (by omega)]
          refine ⟨zl0, fun t nt => ⟨zl2, fun t2 nt2 => ?_⟩⟩
          have e3 := same_upd (o := .tup []) nt
          have e4 := same_upd (o := .tup [.non, .ref t]) nt2
          refine q _ t2 .non (.ref t) (s1.trans (e3.trans e4)) (.inl (.inl upd_same)) (by rw [hw]; exact .non) (by rw [hlp]; exact Dp.same e4 _ _ (Dp.new nt .nil))
        · have c2' : ¬ ((ys.length : Int) - 1 = (exs.length : Int)) := fun z => c2 (decide_eq_true (by rw [z]))
          have hlt : Ls.length - 1 < es.length := by omega
          obtain ⟨e, he⟩ : ∃ e, es[Ls.length - 1]? = some e := ⟨_, List.getElem?_eq_getElem hlt⟩
          obtain ⟨x, hx, dx⟩ := item_at hexs he
          obtain ⟨t, rfl, ht⟩ := eventD (Dp.same s1 _ _ dx)
          have hidx : ((ys.length : Int) - 1) = ((Ls.length - 1 : Nat) : Int) := by omega
          have hw : wrongL es Ls = some (Ls.length - 1, if isDo e = true then ("idle" : Str) else ("empty" : Str)) := by
            unfold wrongL; rw [hlp]
            show (if Ls.length - 1 = es.length then none else _) = _
            rw [if_neg (by omega), he]; rfl
          refine ⟨.int ((ys.length : Int) - 1), rfl, .ref ea, rfl, .int ((ys.length : Int) - 1), rfl, ea, exs, _, .ref t, rfl, rfl, SqT.same hea s1, (by rw [hidx]; exact atI_nat hx), t, _, 0, .str (evW e), rfl, rfl, ht, atI_nat (j := 0) (evV_0 e), rfl, _, rfl, ?_⟩
          have dl : ∀ H, Dp K H (.int ((ys.length : Int) - 1)) (dI (Ls.length - 1)) := fun H => by rw [hidx]; exact .int _
          rw [w_do]
          refine ite2 (fun c3 => ?_) (fun c3 => ?_)
          · refine ⟨zl2, fun u nu => ⟨zl0, fun t1 nt1 => ⟨zl2, fun t2 nt2 => ?_⟩⟩⟩
            have e3 := same_upd (o := .tup [.int ((ys.length : Int) - 1), .str "idle"]) nu
            have e4 := same_upd (o := .tup []) nt1
            have e5 := same_upd (o := .tup [.ref u, .ref t1]) nt2
            refine q _ t2 (.ref u) (.ref t1) (s1.trans (e3.trans (e4.trans e5))) (.inl (.inl upd_same)) ?_ (by rw [hlp]; exact Dp.same e5 _ _ (Dp.new nt1 .nil))
            rw [hw, if_pos c3]
            exact Dp.same (e4.trans e5) _ _ (Dp.new nu (.cons (dl _) (.cons (.str _) .nil)))
          · refine ⟨zl2, fun u nu => ⟨zl0, fun t1 nt1 => ⟨zl2, fun t2 nt2 => ?_⟩⟩⟩
            have e3 := same_upd (o := .tup [.int ((ys.length : Int) - 1), .str "empty"]) nu
            have e4 := same_upd (o := .tup []) nt1
            have e5 := same_upd (o := .tup [.ref u, .ref t1]) nt2
            refine q _ t2 (.ref u) (.ref t1) (s1.trans (e3.trans (e4.trans e5))) (.inl (.inl upd_same)) ?_ (by rw [hlp]; exact Dp.same e5 _ _ (Dp.new nt1 .nil))
            rw [hw, if_neg c3]
            exact Dp.same (e4.trans e5) _ _ (Dp.new nu (.cons (dl _) (.cons (.str _) .nil)))
end
end Kq
namespace Kq
open PySem PySem.Spec PyProof.Rows
open L2 hiding CX0 E0 pass0 Fun fun_mk Fun.ok Fun.binds defArgs defBody defScope
open C8
/-! the plain law: what the law's own standings tell is what the program's standings are -/
def kW (x : Way) : Nat × Nat := (x.1, x.2.1)
def ltK (k l : Nat × Nat) : Prop := k.1 < l.1 ∨ (k.1 = l.1 ∧ k.2 < l.2)
theorem ltK_asymm {k l : Nat × Nat} (h : ltK k l) : ¬ ltK l k := by unfold ltK at *; omega
theorem ltK_ne {k l : Nat × Nat} (h : ltK k l) : k ≠ l := fun e => by subst e; unfold ltK at h; omega
theorem leK (k l : Nat × Nat) : PySem.W.dataLe false eK k l = decide ((k.1 : Int) < l.1 ∨ ((k.1 : Int) = l.1 ∧ (k.2 : Int) ≤ l.2)) := by
  have := congrFun (congrFun (PySem.W.dataLe_ii (fun k : Nat × Nat => (k.1 : Int)) fun k => (k.2 : Int)) k) l
  exact this
theorem leK_lt {k l : Nat × Nat} (h : PySem.W.dataLe false eK k l = true) (n : k ≠ l) : ltK k l := by
  rw [leK] at h
  have h := of_decide_eq_true h
  unfold ltK
  have : ¬ (k.1 = l.1 ∧ k.2 = l.2) := fun z => n (Prod.ext z.1 z.2)
  omega
theorem ltW (a b : Way) (h : kW a ≠ kW b) : PySem.W.dataLt (eW a) (eW b) = PySem.W.dataLt (eK (kW a)) (eK (kW b)) := by
  obtain ⟨a1, a2, a3⟩ := a
  obtain ⟨b1, b2, b3⟩ := b
  have ai : ∀ x y : Int, PySem.W.alike (.int x) (.int y) = true := fun _ _ => by simp [PySem.W.alike]
  show PySem.W.dataLt (.tuple [.int a1, .int a2, eT a3]) (.tuple [.int b1, .int b2, eT b3]) = PySem.W.dataLt (.tuple [.int a1, .int a2]) (.tuple [.int b1, .int b2])
  rw [PySem.W.dataLt_tuple, PySem.W.dataLt_tuple, PySem.W.dataLt_cons (ai _ _), PySem.W.dataLt_cons (ai _ _), PySem.W.dataLt_cons (ai _ _), PySem.W.dataLt_cons (ai _ _)]
  have e1 : ∀ x y : Int, PyData.eqv (.int x) (.int y) = decide (x = y) := fun x y => by
    by_cases q : x = y <;> simp [PyData.eqv, q]
  rw [e1, e1]
  by_cases q1 : (a1 : Int) = b1
  · by_cases q2 : (a2 : Int) = b2
    · exact absurd (Prod.ext (by show a1 = b1; omega) (by show a2 = b2; omega)) h
    · rw [decide_eq_true q1, decide_eq_false q2]; rfl
  · rw [decide_eq_false q1]; rfl
theorem leW_lt {a b : Way} (h : PySem.W.dataLe false eW a b = true) (n : kW a ≠ kW b) : ltK (kW a) (kW b) := by
  refine leK_lt ?_ n
  rw [PySem.W.dataLe_eq] at h ⊢
  have h : (!PySem.W.dataLt (eW b) (eW a)) = true := h
  show (!PySem.W.dataLt (eK (kW b)) (eK (kW a))) = true
  rw [← ltW b a (Ne.symm n)]
  exact h
theorem uniq_sorted {α : Type} {r : α → α → Prop} (as : ∀ a b, r a b → ¬ r b a) : ∀ {l m : List α}, l.Pairwise r → m.Pairwise r → (∀ x, x ∈ l ↔ x ∈ m) → l = m
  | [], [], _, _, _ => rfl
  | [], b :: m, _, _, h => nomatch (h b).mpr List.mem_cons_self
  | a :: l, [], _, _, h => nomatch (h a).mp List.mem_cons_self
  | a :: l, b :: m, p, q, h => by
    rw [List.pairwise_cons] at p q
    have irr : ∀ x, ¬ r x x := fun x z => as x x z z
    have e : a = b := by
      rcases List.mem_cons.mp ((h a).mp List.mem_cons_self) with e | e
      · exact e
      · rcases List.mem_cons.mp ((h b).mpr List.mem_cons_self) with e2 | e2
        · exact e2.symm
        · exact absurd (q.1 a e) (as _ _ (p.1 b e2))
    subst e
    congr 1
    refine uniq_sorted as p.2 q.2 fun x => ⟨fun hx => ?_, fun hx => ?_⟩
    · rcases List.mem_cons.mp ((h x).mp (List.mem_cons_of_mem _ hx)) with e | e
      · subst e; exact absurd (p.1 _ hx) (irr _)
      · exact e
    · rcases List.mem_cons.mp ((h x).mpr (List.mem_cons_of_mem _ hx)) with e | e
      · subst e; exact absurd (q.1 _ hx) (irr _)
      · exact e
theorem valW_put {d : LW} {e k : Nat × Nat} {ts : List Task} : valW (putW d e ts) k = if k = e then ts else valW d k := by
  have fm : ∀ d : LW, (d.any fun x => decide (x.1 = e)) = true → getW (d.map fun x => if x.1 = e then (x.1, ts) else x) k = if k = e then some ts else getW d k := by
    intro d
    induction d with
    | nil => intro h; cases h
    | cons x d ih =>
      intro h
      rw [List.map_cons]
      unfold getW
      rw [List.find?_cons, List.find?_cons]
      by_cases xe : x.1 = e
      · rw [if_pos xe]
        by_cases ke : k = e
        · rw [if_pos ke, decide_eq_true (show (x.1, ts).1 = k from xe.trans ke.symm)]; rfl
        · rw [if_neg ke, decide_eq_false (show ¬ (x.1, ts).1 = k from fun z => ke (z.symm.trans xe))]
          by_cases r : (d.any fun x => decide (x.1 = e)) = true
          · have := ih r
            rw [if_neg ke] at this
            exact this
          · have hm : (d.map fun x => if x.1 = e then (x.1, ts) else x) = d := by
              rw [List.map_congr_left (g := id), List.map_id]
              intro y hy
              rw [if_neg (fun z => r (List.any_eq_true.mpr ⟨y, hy, decide_eq_true z⟩))]; rfl
            rw [hm]
      · rw [if_neg xe]
        by_cases xk : x.1 = k
        · rw [decide_eq_true xk, if_neg (fun z : k = e => xe (xk.trans z))]
        · rw [decide_eq_false xk]
          rw [List.any_cons, decide_eq_false xe, Bool.false_or] at h
          exact ih h
  unfold putW
  split
  · rename_i h
    unfold valW
    rw [fm d h]
    split <;> rfl
  · rename_i h
    unfold valW getW
    rw [List.find?_append]
    by_cases ke : k = e
    · subst ke
      have hn : (d.find? fun x => decide (x.1 = k)) = none := by
        rw [List.find?_eq_none]
        intro y hy q
        exact h (List.any_eq_true.mpr ⟨y, hy, q⟩)
      rw [hn, if_pos rfl, List.find?_cons, decide_eq_true rfl]; rfl
    · rw [if_neg ke]
      cases hf : d.find? fun x => decide (x.1 = k) with
      | some y => rfl
      | none => rw [List.find?_cons, decide_eq_false (fun z : e = k => ke z.symm)]; rfl
theorem mem_toldW {d : LW} {x : Way} : x ∈ toldW d ↔ x.2.2 ≠ [] ∧ valW d (kW x) = x.2.2 := by
  obtain ⟨a, b, c⟩ := x
  unfold toldW
  rw [List.mem_map]
  constructor
  · rintro ⟨k, hk, e⟩
    have h2 := of_decide_eq_true (List.mem_filter.mp hk).2
    cases e
    refine ⟨fun z => ?_, rfl⟩
    have z : valW d k = [] := z
    rw [z] at h2; exact absurd h2 (by decide)
  · rintro ⟨h1, h2⟩
    have h1 : c ≠ [] := h1
    have h2 : valW d (a, b) = c := h2
    refine ⟨(a, b), List.mem_filter.mpr ⟨List.mem_mergeSort.mpr ?_, decide_eq_true ?_⟩, by rw [h2]⟩
    · rcases valW_of (d := d) (k := (a, b)) with z | z
      · rw [z] at h2; exact absurd h2.symm h1
      · exact List.mem_map.mpr ⟨_, z, rfl⟩
    · rw [h2]
      cases c with
      | nil => exact absurd rfl h1
      | cons y r => rw [List.length_cons]; omega
theorem total_K : PySem.W.TotalLe (PySem.W.dataLe false eK) := PySem.W.sortLe_total _ _ _
theorem total_W : PySem.W.TotalLe (PySem.W.dataLe false eW) := PySem.W.sortLe_total _ _ _
theorem keysW_sorted {d : LW} (h : (d.map (·.1)).Nodup) : (keysW d).Pairwise ltK := by
  have h1 := PySem.W.sort_pairwise total_K (d.map (·.1))
  have h2 : ((d.map (·.1)).mergeSort (PySem.W.dataLe false eK)).Nodup := (List.mergeSort_perm (d.map (·.1)) _).nodup_iff.mpr h
  exact (List.pairwise_and_iff.mpr ⟨h1, h2⟩).imp fun ⟨a, b⟩ => leK_lt a b
theorem toldW_sorted {d : LW} (h : (d.map (·.1)).Nodup) : (toldW d).Pairwise fun a b => ltK (kW a) (kW b) := by
  unfold toldW
  rw [List.pairwise_map]
  exact (keysW_sorted h).filter _
theorem withWay_told {d : LW} {e : Nat × Nat} {ts : List Task} (h : (d.map (·.1)).Nodup) : withWay (toldW d) e ts = toldW (putW d e ts) := by
  have hs := toldW_sorted h
  have hkw : ∀ (x : Way), ((x.1, x.2.1) = e) = (kW x = e) := fun _ => rfl
  have nd : (((toldW d).filter fun x => !decide ((x.1, x.2.1) = e)) ++ if ts = [] then [] else [(e.1, e.2, ts)]).Pairwise fun a b => kW a ≠ kW b := by
    rw [List.pairwise_append]
    refine ⟨(hs.filter _).imp fun q => ltK_ne q, by split <;> simp, fun a ha b hb => ?_⟩
    have h1 := (List.mem_filter.mp ha).2
    split at hb
    · cases hb
    · rw [List.mem_singleton] at hb
      subst hb
      intro z
      have z : kW a = e := z
      rw [decide_eq_true (show (a.1, a.2.1) = e from z)] at h1
      cases h1
  refine uniq_sorted (r := fun a b => ltK (kW a) (kW b)) (fun a b q => ltK_asymm q) ?_ (toldW_sorted (putW_nod h)) fun x => ?_
  · unfold withWay sortW
    have h1 := PySem.W.sort_pairwise total_W (((toldW d).filter fun x => !decide ((x.1, x.2.1) = e)) ++ if ts = [] then [] else [(e.1, e.2, ts)])
    have h2 := (List.mergeSort_perm (((toldW d).filter fun x => !decide ((x.1, x.2.1) = e)) ++ if ts = [] then [] else [(e.1, e.2, ts)]) (PySem.W.dataLe false eW)).symm.pairwise nd fun {a b} (z : kW a ≠ kW b) => Ne.symm z
    exact (List.pairwise_and_iff.mpr ⟨h1, h2⟩).imp fun ⟨a, b⟩ => leW_lt a b
  · unfold withWay sortW
    rw [List.mem_mergeSort, List.mem_append, List.mem_filter, mem_toldW, mem_toldW, valW_put]
    by_cases q : kW x = e
    · rw [if_pos q, decide_eq_true (show (x.1, x.2.1) = e from q)]
      constructor
      · rintro (⟨_, z⟩ | z)
        · cases z
        · split at z
          · cases z
          · rename_i hn
            rw [List.mem_singleton] at z
            subst z
            exact ⟨hn, rfl⟩
      · rintro ⟨h1, h2⟩
        right
        rw [if_neg (by rw [h2]; exact h1), List.mem_singleton, ← q, h2]; rfl
    · rw [if_neg q, decide_eq_false (show ¬ (x.1, x.2.1) = e from q)]
      constructor
      · rintro (⟨z, _⟩ | z)
        · exact z
        · split at z
          · cases z
          · rw [List.mem_singleton] at z
            subst z
            exact absurd rfl q
      · exact fun z => .inl ⟨z, rfl⟩
theorem onWay_told (d : LW) (e : Nat × Nat) : onWay (toldW d) e = valW d e := by
  unfold onWay
  cases q : (toldW d).filter fun x => decide ((x.1, x.2.1) = e) with
  | nil =>
    show [] = valW d e
    cases v : valW d e with
    | nil => rfl
    | cons t r =>
      have hm : ((e.1, e.2, t :: r) : Way) ∈ (toldW d).filter fun x => decide ((x.1, x.2.1) = e) := List.mem_filter.mpr ⟨mem_toldW.mpr ⟨by simp, v⟩, decide_eq_true rfl⟩
      rw [q] at hm; cases hm
  | cons x r =>
    show x.2.2 = valW d e
    have hm : x ∈ (toldW d).filter fun x => decide ((x.1, x.2.1) = e) := q ▸ List.mem_cons_self
    obtain ⟨h1, h2⟩ := List.mem_filter.mp hm
    have h2 : kW x = e := of_decide_eq_true h2
    rw [← h2]
    exact (mem_toldW.mp h1).2.symm
theorem sendAll_told {h : Nat} : ∀ {ls : List (Nat × Task)} {d : LW}, (d.map (·.1)).Nodup → sendAll h ls (toldW d) = toldW (putAll h ls d)
  | [], d, _ => rfl
  | l :: ls, d, n => by
    show sendAll h ls (withWay (toldW d) (h, l.1) (onWay (toldW d) (h, l.1) ++ [l.2])) = toldW (putAll h ls (putW d (h, l.1) (valW d (h, l.1) ++ [l.2])))
    rw [onWay_told, withWay_told n, sendAll_told (putW_nod n)]
theorem told_step {m : Nat} {R : Rules} {L : LS} (n : (L.2.map (·.1)).Nodup) (e : Ev) : afterEv m R (told L) e = (stepL m R L e).map told := by
  cases e with
  | doo h =>
    show afterDo m R (told L) h = (stepDo m R L h).map told
    unfold afterDo stepDo
    show (match L.1[h]? with
      | some (t :: r) => some (L.1.set h r, sendAll h (sentL m R h t) (toldW L.2))
      | _ => none) = _
    cases q : L.1[h]? with
    | none => rfl
    | some b =>
      cases b with
      | nil => rfl
      | cons t r =>
        show some (L.1.set h r, sendAll h (sentL m R h t) (toldW L.2)) = some (told (L.1.set h r, putAll h (sentL m R h t) L.2))
        rw [sendAll_told n]; rfl
  | hear h f =>
    show afterHear (told L) h f = (stepHear L h f).map told
    unfold afterHear stepHear
    rw [show onWay (told L).2 (f, h) = valW L.2 (f, h) from onWay_told _ _]
    cases q : valW L.2 (f, h) with
    | nil => rfl
    | cons t r =>
      show some (L.1.set h (((L.1[h]?).getD []) ++ [t]), withWay (toldW L.2) (f, h) r) = some (told (L.1.set h (((L.1[h]?).getD []) ++ [t]), putW L.2 (f, h) r))
      rw [withWay_told n]; rfl
  | say h x => rfl
theorem told_first (m : Nat) (g : List Task) : told (firstL m g) = begunS m g := by
  have : toldW [] = [] := by unfold toldW keysW; rw [List.map_nil, List.mergeSort_nil]; rfl
  unfold told firstL begunS
  rw [this]
theorem told_standings {m : Nat} {R : Rules} (ok : okRules m R) : ∀ (es : List Ev) (L : LS) (n : Nat), GoodL m R n L → (∀ e ∈ es, okEv m e) → (standingsL m R L es).map told = standings m R (told L) es
  | [], L, n, g, oe => rfl
  | e :: es, L, n, g, oe => by
    have h := told_step (m := m) (R := R) g.nod e
    cases q : stepL m R L e with
    | none =>
      rw [q] at h
      rw [standingsL_none q, standings_none h]; rfl
    | some L' =>
      rw [q] at h
      rw [standingsL_some q, standings_some h, List.map_cons, told_standings ok es L' (n + 3) (goodL_step ok g (oe e List.mem_cons_self) q) fun e he => oe e (List.mem_cons_of_mem _ he)]
theorem told_stsR {m : Nat} {R : Rules} {g : List Task} {es : List Ev} (ok : okRec m R g es) : (standingsL m R (firstL m g) es).map told = stsR m R g es := by
  rw [told_standings ok.1 es _ 20 (goodL_first ok.1 ok.2.1 ok.2.2.1) ok.2.2.2.1, told_first]
theorem sum_zero : ∀ {l : List Nat}, (l.map fun n : Nat => (n : Int)).sum = 0 ↔ ∀ n ∈ l, n = 0 := by
  have pos : ∀ l : List Nat, 0 ≤ (l.map fun n : Nat => (n : Int)).sum := fun l => by
    induction l with
    | nil => exact Int.le_refl _
    | cons n l ih => rw [List.map_cons, List.sum_cons]; omega
  intro l
  induction l with
  | nil => simp
  | cons n l ih =>
    rw [List.map_cons, List.sum_cons, List.forall_mem_cons, ← ih]
    have := pos l
    omega
theorem sum_pos (l : List Nat) : 0 ≤ (l.map fun n : Nat => (n : Int)).sum := by
  induction l with
  | nil => exact Int.le_refl _
  | cons n l ih => rw [List.map_cons, List.sum_cons]; omega
theorem told_quiet (L : LS) : allQuiet (told L) = quietL L := by
  have e1 : (L.1.map fun b => (b.length : Int)) = (L.1.map List.length).map fun n : Nat => (n : Int) := by rw [List.map_map]; rfl
  have e2 : (L.2.map fun e => ((valW L.2 e.1).length : Int)) = (L.2.map fun e => (valW L.2 e.1).length).map fun n : Nat => (n : Int) := by rw [List.map_map]; rfl
  rw [Bool.eq_iff_iff]
  unfold quietL allQuiet
  rw [decide_eq_true_iff, e1, e2, Bool.and_eq_true, List.all_eq_true]
  have p1 := sum_pos (L.1.map List.length)
  have p2 := sum_pos (L.2.map fun e => (valW L.2 e.1).length)
  have z1 := sum_zero (l := L.1.map List.length)
  have z2 := sum_zero (l := L.2.map fun e => (valW L.2 e.1).length)
  have key : ((∀ b ∈ L.1, b.isEmpty = true) ∧ (toldW L.2).isEmpty = true) ↔ ((L.1.map List.length).map fun n : Nat => (n : Int)).sum = 0 ∧ ((L.2.map fun e => (valW L.2 e.1).length).map fun n : Nat => (n : Int)).sum = 0 := by
    rw [z1, z2]
    refine and_congr ⟨fun h n hn => ?_, fun h b hb => ?_⟩ ⟨fun h n hn => ?_, fun h => ?_⟩
    · obtain ⟨b, hb, rfl⟩ := List.mem_map.mp hn
      have := h b hb
      rw [List.isEmpty_iff] at this
      rw [this]; rfl
    · have := h b.length (List.mem_map.mpr ⟨b, hb, rfl⟩)
      rw [List.eq_nil_of_length_eq_zero this]; rfl
    · obtain ⟨e, he, rfl⟩ := List.mem_map.mp hn
      rw [List.isEmpty_iff] at h
      cases v : valW L.2 e.1 with
      | nil => rfl
      | cons t r =>
        have hm : ((e.1.1, e.1.2, t :: r) : Way) ∈ toldW L.2 := mem_toldW.mpr ⟨by simp, v⟩
        rw [h] at hm; cases hm
    · rw [List.isEmpty_iff]
      cases q : toldW L.2 with
      | nil => rfl
      | cons x r =>
        have hx : x ∈ toldW L.2 := q ▸ List.mem_cons_self
        obtain ⟨h1, h2⟩ := mem_toldW.mp hx
        rcases valW_of (d := L.2) (k := kW x) with z | z
        · rw [z] at h2; exact absurd h2.symm h1
        · have := h _ (List.mem_map.mpr ⟨_, z, rfl⟩)
          have h3 : valW L.2 (kW x) = [] := List.eq_nil_of_length_eq_zero this
          rw [h3] at h2; exact absurd h2.symm h1
  refine key.trans ?_
  omega
theorem told_lies (es : List Ev) (Ls : List LS) : liesP es (Ls.map told) = liesL es Ls := by
  unfold liesP liesL
  rw [List.length_map]
  congr 1
  funext i
  rw [List.getElem?_map, Option.map_map, show (allQuiet ∘ told) = quietL from funext told_quiet]
theorem told_wrong (es : List Ev) (Ls : List LS) : wrongP es (Ls.map told) = wrongL es Ls := by
  unfold wrongP wrongL
  rw [told_lies, List.length_map]
  all_goals (cases liesL es Ls <;> rfl)
theorem quietF_range : ∀ (l : List PS) (k : Nat), quietF k l = (((List.range l.length).filter fun i => ((l[i]?).map allQuiet).getD false).head?).map (· + k)
  | [], k => rfl
  | s :: r, k => by
    rw [List.length_cons, List.range_succ_eq_map, List.filter_cons, quietF]
    by_cases q : allQuiet s = true
    · rw [if_pos q]
      have : (((s :: r)[0]?).map allQuiet).getD false = true := q
      rw [if_pos this]
      show some k = some (0 + k)
      rw [Nat.zero_add]
    · rw [if_neg q]
      have : ¬ (((s :: r)[0]?).map allQuiet).getD false = true := q
      rw [if_neg this, quietF_range r (k + 1), List.filter_map, List.head?_map, Option.map_map]
      congr 1
      funext i
      show i + (k + 1) = i + 1 + k
      omega
theorem told_quietP (Ls : List LS) : quietP (Ls.map told) = ((List.range Ls.length).filter fun i => ((Ls[i]?).map quietL).getD false).head? := by
  unfold quietP
  rw [quietF_range, List.length_map]
  have : (fun i : Nat => (((Ls.map told)[i]?).map allQuiet).getD false) = fun i : Nat => ((Ls[i]?).map quietL).getD false := by
    funext i
    rw [List.getElem?_map, Option.map_map, show (allQuiet ∘ told) = quietL from funext told_quiet]
  rw [this]
  cases ((List.range Ls.length).filter fun i => ((Ls[i]?).map quietL).getD false).head? <;> rfl
end Kq
namespace Kq
open PySem PySem.Spec PyProof.Rows
open L2 hiding CX0 E0 pass0 Fun fun_mk Fun.ok Fun.binds defArgs defBody defScope
open C8
/-! the law -/
section
variable {P : Program} {w : World} {K : PySem.W.Frag} {mg : Str → Option Value} {base : Heap} {CW CR : Addr}
abbrev N_law : List Str := ["_law_script", "_law_hand_here", "_law_turn", "_law_many_here", "_law_rules_here", "_law_given", "_law_events", "_law_works", "_law_change", "_law_record", "_law_standings_here", "_law_wrong_here", "_law_lies", "_law_quiet", "_law_other", "_law_at", "_law_standing"]
theorem sc_law : FnScope N_law ["_law_script"] (fnScope s_law) := fnScope_by (by decide +kernel)
theorem mid_same {H : Hp} {x dx : Addr} {o o' : HO} (nx : H x = none) (nd : H dx = none) : Same H (upd (upd H dx o) x o') := fun b u q => by
  rw [upd_ne (ne_of_none q nx), upd_ne (ne_of_none q nd)]; exact q
theorem made_same {H H' : Hp} {x dx : Addr} {o o' : HO} (nx : H x = none) (nd : H dx = none) (hb : But x (upd (upd H dx o) x o') H') : Same H H' := fun b u q => hb b u (ne_of_none q nx) (mid_same nx nd b u q)
theorem IsWorks.drew {H H' : Hp} {wa a c : Addr} {m : Nat} {R : Rules} (h : IsWorks K CW H wa m R) (ha : Hand H a c) (d : Drew a c H H') : IsWorks K CW H' wa m R := by
  obtain ⟨dx, r, h1, h2⟩ := h
  obtain ⟨_, _, _, _, _, q, _⟩ := id ha
  exact ⟨dx, r, d.but _ _ (ne_of h1 q fun z => nomatch z) h1, Drew.data ha d (flat_R R) h2⟩
theorem IsRec.drew {H H' : Hp} {r a c : Addr} {m : Nat} {R : Rules} {g : List Task} {es : List Ev} (h : IsRec K CW CR H r m R g es) (ha : Hand H a c) (d : Drew a c H H') : IsRec K CW CR H' r m R g es := by
  obtain ⟨dx, wa, gv, ev, h1, h2, h3, h4⟩ := h
  obtain ⟨_, _, _, _, _, q, _⟩ := id ha
  exact ⟨dx, wa, gv, ev, d.but _ _ (ne_of h1 q fun z => nomatch z) h1, h2.drew ha d, Drew.data ha d (flat_T g) h3, Drew.data ha d (flat_Es es) h4⟩
theorem shp_Wr (o : Option (Nat × Str)) (h : ∀ i x, o = some (i, x) → (PyData.str x).canLay0 = true) : shp 1 (eWr o) := by
  cases o with
  | none => exact shp_non
  | some p =>
    obtain ⟨i, x⟩ := p
    exact shp_cons (shp_I _) (shp_cons (shp_str _ (h i x rfl)) shp_nil)
theorem wrongL_str {es : List Ev} {Ls : List LS} {i : Nat} {x : Str} (h : wrongL es Ls = some (i, x)) : (PyData.str x).canLay0 = true := by
  unfold wrongL at h
  split at h
  · cases h; decide +kernel
  · split at h
    · cases h
    · cases h
      split <;> decide +kernel
theorem shp_Ls (l : List Nat) : shp 1 (eLs l) := shp_map _ (fun _ => shp_I _) l
theorem shp_Q (o : Option Nat) : shp 1 (eQ o) := by
  cases o with
  | none => exact shp_non
  | some i => exact shp_I _
abbrev lawK : Nat := 8
def spLaw (K : PySem.W.Frag) : Sp := fun vs H Q _ => ∃ (a : Addr) (ns : List Int), vs = [.ref a] ∧ SqL K H a (ns.map V.int) ∧ ns.length ≤ 63 ∧ ∀ H', Q (.bl true) H'
theorem ok_law (T : Tx K mg CW CR) {f : Addr} {fd : FuncData} (F : Def K mg "law" s_law f fd) : FnOk P w K mg base CX0 (lawK + 1) f fd ["_law_script"] (spLaw K) := by
  have c_Works := c_Works (P := P) (w := w) (base := base) T
  have c_Record := c_Record (P := P) (w := w) (base := base) T
  have c_Works_eq := c_Works_eq (P := P) (w := w) (base := base) T
  have c_Record_eq := c_Record_eq (P := P) (w := w) (base := base) T
  have c_p_first_wrong := c_p_first_wrong (P := P) (w := w) (base := base) T
  have c_p_standing_at := c_p_standing_at (P := P) (w := w) (base := base) T
  have c_p_quiet_from := c_p_quiet_from (P := P) (w := w) (base := base) T
  have c_p_lies_in := c_p_lies_in (P := P) (w := w) (base := base) T
  have c_l_hand := c_l_hand (P := P) (w := w) (base := base) T
  have c_l_draw := c_l_draw (P := P) (w := w) (base := base) T
  have c_l_told := c_l_told (P := P) (w := w) (base := base) T
  have c_l_is_quiet := c_l_is_quiet (P := P) (w := w) (base := base) T
  have c_l_run := c_l_run (P := P) (w := w) (base := base) T
  have c_l_standings := c_l_standings (P := P) (w := w) (base := base) T
  have c_l_bent := c_l_bent (P := P) (w := w) (base := base) T
  have c_l_wrong := c_l_wrong (P := P) (w := w) (base := base) T
  refine fn0 F.fn sc_law (fun vs H Q E h => ?_) (fun cdv A outer s0 H vs Q E hr h => ?_)
  · obtain ⟨a, ns, rfl, _⟩ := h; rfl
  · obtain ⟨sc, ns, rfl, hsc, _, q⟩ := h
    have z := sizeLine_eq
    have clR := T.c_Record.ic.cl
    refine ⟨_, (pss_cons (ps_set (i := 1) sc_law.nd rfl (.inl rfl) (pe_c c_l_hand hr (by decide) (by rfl) (pa_cons (pv 0) pa_nil)))
      (pss_cons (ps_for PassesOwn.never rfl (pi_range1 (by rfl) T.z_range (pa_cons pe_int pa_nil)) (pgn 2 sc_law.nd)
        (pss_cons (ps_asg (pe_c c_l_run hr (by decide) (by rfl) (pa_cons (pv 1) (pa_cons pe_int pa_nil))) (pgt K 4 (pgs_cons (pgn 3 sc_law.nd) (pgs_cons (pgn 4 sc_law.nd) (pgs_cons (pgn 5 sc_law.nd) (pgs_cons (pgn 6 sc_law.nd) pgs_nil))))))
        (pss_cons (ps_set (i := 7) sc_law.nd rfl (.inl rfl) (pe_mk c_Works hr (by decide) (by rfl) (pa_cons (pv 3) (pa_cons (pv 4) pa_nil))))
        (pss_cons (ps_for PassesOwn.never rfl (pi_range1 (by rfl) T.z_range (pa_cons (pe_c c_l_draw hr (by decide) (by rfl) (pa_cons (pv 1) (pa_cons pe_int pa_nil))) pa_nil)) (pgn 8 sc_law.nd)
          (pss_one (ps_set (i := 6) sc_law.nd rfl (.inl rfl) (pe_c c_l_bent hr (by decide) (by rfl) (pa_cons (pv 1) (pa_cons (pv 3) (pa_cons (pv 6) pa_nil)))))))
        (pss_cons (ps_set (i := 9) sc_law.nd rfl (.inr rfl) (pe_mk c_Record hr (by decide) (by rfl) (pa_cons (pv 7) (pa_cons (pv 5) (pa_cons (pv 6) pa_nil)))))
        (pss_cons (ps_set (i := 10) sc_law.nd rfl (.inl rfl) (pe_c c_l_standings hr (by decide) (by rfl) (pa_cons (pv 3) (pa_cons (pv 4) (pa_cons (pv 5) (pa_cons (pv 6) pa_nil))))))
        (pss_cons (ps_asg (pe_c c_l_wrong hr (by decide) (by rfl) (pa_cons (pv 6) (pa_cons (pv 10) pa_nil))) (pgt K 2 (pgs_cons (pgn 11 sc_law.nd) (pgs_cons (pgn 12 sc_law.nd) pgs_nil))))
        (pss_cons (ps_if (PW.pt (pw_or (pt_cmpR (kneD K hr) (pe_c c_p_first_wrong hr (by decide) (by rfl) (pa_cons (pv 9) pa_nil)) (pv 11) (nomark _)) (pw_or (pt_cmpR (kneD K hr) (pe_c c_p_lies_in hr (by decide) (by rfl) (pa_cons (pv 9) pa_nil)) (pv 12) (nomark _)) (pw_or1 (pt_not (pt_val (pe_callB (kisi K) (by rfl) T.z_isinstance (by decide +kernel) (pa_cons (pe_c c_p_lies_in hr (by decide) (by rfl) (pa_cons (pv 9) pa_nil)) (pa_cons (pe_bltn (by rfl) T.z_tuple (by decide +kernel) (show RelV (.ty "tuple") _ from rfl)) pa_nil)))))))))
          (pss_one (ps_ret pe_bl)) pss_nil)
        (pss_cons (ps_setLc (own := [("_law_at", 15), ("_law_standing", 16)]) (i := 13) (by rfl) sc_law.nd rfl rfl (sw_true rfl rfl rfl (by decide +kernel)) (pi_enum (by rfl) T.z_enumerate (pa_cons (pv 10) pa_nil)) (blkOk_by (N := N_law) (sc := fnScope s_law) (by decide +kernel)) (fun _ _ _ _ _ => (pgt K 2 (pgs_cons (pgn 15 sc_law.nd) (pgs_cons (pgn 16 sc_law.nd) pgs_nil)))) (fun _ _ _ _ _ => (pts_one (pt_val (pe_c c_l_is_quiet hr (by decide) (by rfl) (pa_cons (pv 16) pa_nil))))) (fun _ _ _ _ _ => (pv 15)))
        (pss_cons (ps_if (pt_cmpR (kneD K hr) (pe_c c_p_quiet_from hr (by decide) (by rfl) (pa_cons (pv 9) pa_nil)) (pe_ifExp (pt_cmpR op_gt (pe_callB (klen K) (by rfl) T.z_len (by decide +kernel) (pa_cons (pv 13) pa_nil)) pe_int (nomark _)) (pe_ix (kixL K) (pv 13) pe_int (fun _ _ => rfl)) pe_non) (nomark _))
          (pss_one (ps_ret pe_bl)) pss_nil)
        (pss_cons (ps_if (pt_not (pt_val (pe_callB (kall K) (by rfl) T.z_all (by decide +kernel) (pa_cons (pe_lc (own := [("_law_at", 15), ("_law_standing", 16)]) (by rfl) sc_law.nd (pi_enum (by rfl) T.z_enumerate (pa_cons (pv 10) pa_nil)) (blkOk_by (N := N_law) (sc := fnScope s_law) (by decide +kernel)) (fun _ _ _ _ _ => (pgt K 2 (pgs_cons (pgn 15 sc_law.nd) (pgs_cons (pgn 16 sc_law.nd) pgs_nil)))) (fun _ _ _ _ _ => pts_nil) (fun _ _ _ _ _ => (pe_cmpR (keqD K hr) (pe_c c_p_standing_at hr (by decide) (by rfl) (pa_cons (pv 9) (pa_cons (pv 15) pa_nil))) (pe_c c_l_told hr (by decide) (by rfl) (pa_cons (pv 16) pa_nil)) (nomark _)))) pa_nil))))
          (pss_one (ps_ret pe_bl)) pss_nil)
        (pss_cons (ps_if (PW.pt (pw_or (pt_cmpR (op_ownNe c_Works_eq hr (by decide) T.c_Works.ne) (kfld K (pv 9)) (pv 7) (nomark _)) (pw_or (pt_cmpR (kneD K hr) (kfld K (pv 9)) (pv 5) (nomark _)) (pw_or1 (pt_cmpR (kneD K hr) (kfld K (pv 9)) (pv 6) (nomark _))))))
          (pss_one (ps_ret pe_bl)) pss_nil)
        (pss_cons (ps_set (i := 14) sc_law.nd rfl (.inl rfl) (pe_mk c_Record hr (by decide) (by rfl) (pa_cons (pe_mk c_Works hr (by decide) (by rfl) (pa_cons (pv 3) (pa_cons (pv 4) pa_nil))) (pa_cons (pv 5) (pa_cons (pe_c c_l_bent hr (by decide) (by rfl) (pa_cons (pv 1) (pa_cons (pv 3) (pa_cons (pv 6) pa_nil)))) pa_nil)))))
        (pss_cons (ps_if (PW.pt (pw_or (pt_not (pt_cmpR (op_ownEq c_Record_eq hr (by decide)) (pv 9) (pe_mk c_Record hr (by decide) (by rfl) (pa_cons (pv 7) (pa_cons (pv 5) (pa_cons (pv 6) pa_nil)))) (nomark _))) (pw_or1 (pt_cmpR op_ne (pe_cmpR (op_ownEq c_Record_eq hr (by decide)) (pv 9) (pv 14) (nomark _)) (pe_cmpR (keqD K hr) (kfld K (pv 14)) (pv 6) (nomark _)) (nomark _)))))
          (pss_one (ps_ret pe_bl)) pss_nil)
        (pss_one (ps_if (PW.pt (pw_or (pt_cmpR (op_ownEq c_Record_eq hr (by decide)) (pv 9) (pe_tup (pa_cons (pv 7) (pa_cons (pv 5) (pa_cons (pv 6) pa_nil)))) (nomark _)) (pw_or1 (pt_cmpR (op_ownEq c_Record_eq hr (by decide)) (pv 9) (pv 7) (nomark _)))))
          (pss_one (ps_ret pe_bl)) pss_nil))))))))))))))))
      (pss_one (ps_ret pe_bl)))), ?_⟩
    refine ⟨.ref sc, rfl, sc, ns, rfl, hsc, fun H1 a c e1 hh => ⟨3, rfl, by decide, by decide, for_range (lo := 0) (n := (3 : Int).toNat)
      (fun i σ H2 => ∃ y2 y3 y4 y5 y6 y7 y8 y9 y10 y11 y12 y13 y14, σ = [some (.ref sc), some (.ref a), y2, y3, y4, y5, y6, y7, y8, y9, y10, y11, y12, y13, y14, none, none] ∧ Hand H2 a c)
      ⟨none, none, none, none, none, none, none, none, none, none, none, none, none, rfl, hh⟩ (fun i σ H2 hi hP => ?_) (fun σ H2 hP => q H2)⟩⟩
    obtain ⟨y2, y3, y4, y5, y6, y7, y8, y9, y10, y11, y12, y13, y14, rfl, hh2⟩ := hP
    refine ⟨.ref a, rfl, a, c, rfl, hh2, fun H3 t m rv gv ev0 R g es0 d3 ht hrv hgv hev0 okR okg lg oke0 le0 => ⟨t, _, rfl, ht, rfl, _, _, rfl, _, _, rfl, _, _, rfl, _, _, rfl, rfl, ?_⟩⟩
    have m1 := okR.1
    have m6 := okR.2.1
    refine ⟨.int (m : Int), rfl, rv, rfl, fun x dx nx ndx hne => ⟨x, dx, m, rv, R, rfl, upd_same, Dp.same (mid_same nx ndx) _ _ hrv, okR, fun H4 hb4 hx4 hr4 => ⟨rfl, ?_⟩⟩⟩
    have e4 : Same H3 H4 := made_same nx ndx hb4
    have hW4 : IsWorks K CW H4 x m R := ⟨dx, rv, hx4, hr4⟩
    have hh4 := d3.hand.same e4
    refine ⟨.ref a, rfl, a, c, 3, rfl, hh4, by decide, by decide, fun H5 dn d5 hdn => ⟨(dn : Int), rfl, by omega, by omega, for_range (lo := 0) (n := ((dn : Int)).toNat)
      (fun i' σ H6 => ∃ y8 ev es, σ = [some (.ref sc), some (.ref a), some (.int (0 + (i : Int))), some (.int (m : Int)), some rv, some gv, some ev, some (.ref x), y8, y9, y10, y11, y12, y13, y14, none, none] ∧ Drew a c H4 H6 ∧ Dp K H6 ev (eEs es) ∧ (∀ e ∈ es, okEv m e) ∧ es.length ≤ 60 + i')
      ⟨y8, ev0, es0, rfl, d5, Drew.data hh4 d5 (flat_Es _) (Dp.same e4 _ _ hev0), oke0, le0⟩ (fun i' σ H6 hi' hP => ?_) (fun σ H6 hP => ?_)⟩⟩
    · obtain ⟨y8, ev, es, rfl, d6, hev, oke, le⟩ := hP
      exact ⟨.ref a, rfl, .int (m : Int), rfl, ev, rfl, a, c, m, ev, es, rfl, d6.hand, m1, m6, hev, oke, by omega, fun H7 u es' d7 du oke' le' => ⟨_, u, es', rfl, d6.trans d7, du, oke', by omega⟩⟩
    obtain ⟨y8, ev, es, rfl, d6, hev, oke, le⟩ := hP
    have le : es.length ≤ 63 := by omega
    have ok : okRec m R g es := ⟨okR, okg, by omega, oke, by omega⟩
    have hh6 := d6.hand
    have hW6 := hW4.drew hh4 d6
    have hrv6 := Drew.data hh4 d6 (flat_R R) hr4
    have hgv6 := Drew.data hh4 d6 (flat_T g) (Dp.same e4 _ _ hgv)
    have xne : ∀ {H : Hp} {r : Addr}, IsWorks K CW H x m R → H r = none → r ≠ x := fun {H r} h n zz => by
      obtain ⟨_, _, h1, _⟩ := h
      rw [zz, h1] at n; cases n
    refine ⟨.ref x, rfl, gv, rfl, ev, rfl, fun r dr nr ndr hne2 => ⟨r, dr, x, m, gv, ev, R, g, es, rfl, upd_same, hW6.same (mid_same nr ndr), xne hW6 nr, Dp.same (mid_same nr ndr) _ _ hgv6, okg, by omega, Dp.same (mid_same nr ndr) _ _ hev, oke, by omega, fun H8 hb8 hr8 => ⟨rfl, ?_⟩⟩⟩
    have e8 : Same H6 H8 := made_same nr ndr hb8
    have hW8 := hW6.same e8
    have hgv8 := Dp.same e8 _ _ hgv6
    have hev8 := Dp.same e8 _ _ hev
    have hrv8 := Dp.same e8 _ _ hrv6
    have hR8 : IsRec K CW CR H8 r m R g es := ⟨dr, x, gv, ev, hr8, hW8, hgv8, hev8⟩
    have hh8 := hh6.same e8
    refine ⟨.int (m : Int), rfl, rv, rfl, gv, rfl, ev, rfl, m, rv, gv, ev, R, g, es, rfl, hrv8, hgv8, hev8, ok, fun H9 p ys e9 hp hys => ?_⟩
    have sl := standingsL_len (m := m) (R := R) es (firstL m g)
    have hgood := standingsL_good okR es (firstL m g) 20 oke (goodL_first okR okg (by omega))
    have htold := told_stsR ok
    generalize hLs : standingsL m R (firstL m g) es = Ls at hys sl hgood htold
    have hsz : ∀ L ∈ Ls, L.1.length ≤ 1000 ∧ L.2.length ≤ 1000 := fun L hL => by
      have := hgood L hL
      have h1 := this.len
      have h2 := this.size
      omega
    have hyl : ys.length = Ls.length := pd_len hys
    have hys9 : Paired (fun v L => ∃ fp, IsLS K H9 v L fp) ys Ls := pd_keep hys fun _ _ _ hb => ⟨hb.choose, hb.choose_spec.1⟩
    refine ⟨ev, rfl, .ref p, rfl, ev, p, es, ys, Ls, rfl, Dp.same e9 _ _ hev8, hp, hys9, hsz, sl.1, sl.2, by omega, fun H10 t10 x10 y10 e10 ht10 hx10 hy10 => ⟨t10, _, rfl, ht10, rfl, _, _, rfl, _, _, rfl, rfl, ?_⟩⟩
    have e8_10 := e9.trans e10
    have hwr : wrongP es (stsR m R g es) = wrongL es Ls := by rw [← htold, told_wrong]
    have hli : liesP es (stsR m R g es) = liesL es Ls := by rw [← htold, told_lies]
    have shW : shp 1 (eWr (wrongL es Ls)) := shp_Wr _ fun _ _ => wrongL_str
    have shL := shp_Ls (liesL es Ls)
    refine ⟨.ref r, rfl, r, m, R, g, es, rfl, hR8.same e8_10, ok, fun H11 u11 e11 du11 => ⟨x10, rfl, _, _, du11, Dp.same e11 _ _ hx10, ?_⟩⟩
    rw [hwr]
    refine ⟨shp_shaped shW (by decide), shp_shaped shW (by decide), _, rfl, iteF' (by rw [eqv_same shW]; rfl) ?_⟩
    have e8_11 := e8_10.trans e11
    refine ⟨.ref r, rfl, r, m, R, g, es, rfl, hR8.same e8_11, ok, fun H12 u12 e12 du12 => ⟨y10, rfl, _, _, du12, Dp.same (e11.trans e12) _ _ hy10, ?_⟩⟩
    rw [hli]
    refine ⟨shp_shaped shL (by decide), shp_shaped shL (by decide), _, rfl, iteF' (by rw [eqv_same shL]; rfl) ?_⟩
    have e8_12 := e8_11.trans e12
    refine ⟨.ref r, rfl, r, m, R, g, es, rfl, hR8.same e8_12, ok, fun H13 u13 e13 du13 => ?_⟩
    obtain ⟨t13, xs13, rfl, ht13, _⟩ := tupD du13
    refine ⟨_, _, _, _, true, rfl, .ty "tuple", tyT ht13, kit_ty (by decide +kernel), true, rfl, iteF ?_⟩
    have e9_13 := e10.trans (e11.trans (e12.trans e13))
    have e8_13 := e9.trans e9_13
    have hR13 := hR8.same e8_13
    have hp13 := e9_13 _ _ hp
    have hys13 : Paired (fun v L => ∃ fp, IsLS K H13 v L fp) ys Ls := pd_keep hys9 fun _ _ _ hb => ⟨hb.choose, hb.choose_spec.same e9_13⟩
    refine ⟨.ref p, rfl, p, ys, rfl, .inl (.inl hp13), fun D nD => lc_enum (xs := ys) (PvM K H13 D (List.range Ls.length) (fun i => ((Ls[i]?).map quietL).getD false) dI) (PvM.zero nD) (fun i H' _ h => .inl (.inl (h.same _ _ hp13))) (fun i x H' t hi hP nt => ?_) (fun H14 hP => ?_)⟩
    · have hil := (List.getElem?_eq_some_iff.mp hi).1
      have hri : (List.range Ls.length)[i]? = some i := by rw [List.getElem?_range (by omega)]
      obtain ⟨L, hLi, fp, hL⟩ := pd_getR hys13 hi
      have hs := hsz L (List.mem_of_getElem? hLi)
      have e' := same_upd (o := .tup [.int (i : Nat), x]) nt
      refine ⟨t, _, rfl, .inl (.inl upd_same), rfl, _, _, rfl, _, _, rfl, rfl, rfl, ?_⟩
      refine ⟨x, rfl, x, L, fp, rfl, hL.same (hP.same.trans e'), hs.1, hs.2, fun H'' e'' => ⟨_, rfl, ite2 (fun cc => ?_) (fun cc => ?_)⟩⟩
      · refine ⟨.int (i : Nat), rfl, hP.step nD (by rw [List.length_range]; omega) hri ?_ (fun _ => rfl) (e'.trans e'') (.int _)⟩
        rw [hLi]; exact cc
      · refine hP.skip hri ?_ (e'.trans e'')
        rw [hLi]; exact Bool.eq_false_iff.mpr cc
    obtain ⟨e14, acc, hD, hacc⟩ := hP.done (by rw [List.length_range]; omega)
    have hq : quietP (stsR m R g es) = ((List.range Ls.length).filter fun i => ((Ls[i]?).map quietL).getD false).head? := by rw [← htold, told_quietP]
    have e8_14 := e8_13.trans e14
    refine ⟨.ref r, rfl, r, m, R, g, es, rfl, hR8.same e8_14, ok, fun H15 u15 e15 du15 => ?_⟩
    have e8_15 := e8_14.trans e15
    have e9_15 := e9_13.trans (e14.trans e15)
    rw [hq] at du15
    have hal : acc.length = ((List.range Ls.length).filter fun i => ((Ls[i]?).map quietL).getD false).length := by rw [DpAll.len hacc, List.length_map]
    have hD15 := e15 _ _ hD
    have hR15 := hR8.same e8_15
    have hp15 := e9_15 _ _ hp
    have hys15 : Paired (fun v L => ∃ fp, IsLS K H15 v L fp) ys Ls := pd_keep hys9 fun _ _ _ hb => ⟨hb.choose, hb.choose_spec.same e9_15⟩
    clear hys13 hp13 e9_13
    refine ⟨.ref D, rfl, D, acc, rfl, .inl (.inl (.inl hD15)), _, _, rfl, rfl, _, rfl, ?_⟩
    suffices key : _ from by
      refine ite2 (fun cc => ?_) (fun cc => ?_)
      · have cc' : (0 : Int) < (acc.length : Int) := of_decide_eq_true cc
        cases hf : (List.range Ls.length).filter fun i => ((Ls[i]?).map quietL).getD false with
        | nil => rw [hf] at hal; rw [hal] at cc'; exact absurd cc' (by decide)
        | cons k l =>
          rw [hf] at hacc du15
          obtain ⟨xk, xr, rfl, dk, _⟩ := consD hacc
          have := intD dk
          subst this
          refine ⟨.ref D, rfl, D, _, 0, .int (k : Int), rfl, rfl, .inl (.inl hD15), atI_nat (j := 0) rfl, _, _, du15, (show Dp K H15 (.int (k : Int)) (eQ (some k)) from .int _), shp_shaped (shp_Q _) (by decide), shp_shaped (shp_Q (some k)) (by decide), _, rfl, iteF' (by rw [show ((k :: l).head?) = some k from rfl, eqv_same (shp_Q _)]; rfl) ?_⟩
          exact key
      · have cc' : ¬ (0 : Int) < (acc.length : Int) := fun zz => cc (decide_eq_true zz)
        have hf : ((List.range Ls.length).filter fun i => ((Ls[i]?).map quietL).getD false) = [] := List.eq_nil_of_length_eq_zero (by omega)
        rw [hf] at du15
        refine ⟨_, _, du15, (show Dp K H15 .non (eQ none) from .non), shp_shaped (shp_Q _) (by decide), shp_shaped (shp_Q none) (by decide), _, rfl, iteF' (by rw [show (([] : List Nat).head?) = none from rfl, eqv_same (shp_Q _)]; rfl) ?_⟩
        exact key
    refine ⟨.ref p, rfl, p, ys, rfl, .inl (.inl hp15), fun D2 nD2 => lc_enum (xs := ys) (PvM K H15 D2 Ls every fun _ => .bool true) (PvM.zero nD2) (fun i H' _ h => .inl (.inl (h.same _ _ hp15))) (fun i x H' t hi hP nt => ?_) (fun H16 hP => ?_)⟩
    · have hil := (List.getElem?_eq_some_iff.mp hi).1
      obtain ⟨L, hLi, fp, hL⟩ := pd_getR hys15 hi
      have hs := hsz L (List.mem_of_getElem? hLi)
      have hsts : (stsR m R g es)[i]? = some (told L) := by rw [← htold, List.getElem?_map, hLi]; rfl
      have e' := same_upd (o := .tup [.int (i : Nat), x]) nt
      refine ⟨t, _, rfl, .inl (.inl upd_same), rfl, _, _, rfl, _, _, rfl, rfl, rfl, yesT ⟨.ref r, rfl, .int (i : Nat), rfl, r, m, R, g, es, i, told L, rfl, hR15.same (hP.same.trans e'), ok, hsts, fun H'' u e'' du => ⟨x, rfl, x, L, fp, rfl, hL.same (hP.same.trans (e'.trans e'')), hs.1, hs.2, fun H3 u3 e3 du3 =>
        ⟨_, _, Dp.same e3 _ _ du, du3, shp_shaped (shp_S _) (by decide), shp_shaped (shp_S _) (by decide), ?_⟩⟩⟩⟩
      rw [eqv_same (shp_S _)]
      exact hP.step nD2 (by omega) hLi rfl (fun _ => rfl) (e'.trans (e''.trans e3)) (.bl true)
    obtain ⟨e16, acc2, hD2, hacc2⟩ := hP.done (by omega)
    rw [filter_every] at hacc2
    have e8_16 := e8_15.trans e16
    refine ⟨D2, (Ls.map fun _ => true), rfl, .inl (.inl (by rw [hD2, bools_of hacc2])), _, rfl, iteF' (by rw [all_true fun _ _ => rfl]; rfl) ?_⟩
    have hW16 := hW8.same e8_16
    obtain ⟨dwa, rwa, hwa16, hwr16⟩ := id hW16
    have hr16 := e8_16 _ _ hr8
    have shG := shp_T g
    have shE := shp_Es es
    refine ⟨.ref r, rfl, r, CR, dr, _, _, rfl, hr16, clR, T.n_ruled, rfl, .ref x, rfl, x, dwa, _, .ref CW, rfl, hwa16, tyI T.c_Works hwa16, T.c_Works.nfo, x, x, m, R, rfl, hW16, hW16, fun H17 e17 => ⟨true, rfl, false, rfl, iteF ?_⟩⟩
    have e8_17 := e8_16.trans e17
    have hr17 := e8_17 _ _ hr8
    refine ⟨.ref r, rfl, r, CR, dr, _, _, rfl, hr17, clR, T.n_given, rfl, gv, rfl, _, _, Dp.same e8_17 _ _ hgv8, Dp.same e8_17 _ _ hgv8, shp_shaped shG (by decide), shp_shaped shG (by decide), _, rfl, iteF' (by rw [eqv_same shG]; rfl) ?_⟩
    refine ⟨.ref r, rfl, r, CR, dr, _, _, rfl, hr17, clR, T.n_events, rfl, ev, rfl, _, _, Dp.same e8_17 _ _ hev8, Dp.same e8_17 _ _ hev8, shp_shaped shE (by decide), shp_shaped shE (by decide), _, rfl, iteF' (by rw [eqv_same shE]; rfl) ?_⟩
    have hW17 := hW8.same e8_17
    have hR17 := hR8.same e8_17
    have hgv17 := Dp.same e8_17 _ _ hgv8
    have hev17 := Dp.same e8_17 _ _ hev8
    have hrv17 := Dp.same e8_17 _ _ hrv8
    have hh17 := hh8.same e8_17
    refine ⟨.int (m : Int), rfl, rv, rfl, fun x2 dx2 nx2 ndx2 hne3 => ⟨x2, dx2, m, rv, R, rfl, upd_same, Dp.same (mid_same nx2 ndx2) _ _ hrv17, okR, fun H18 hb18 hx18 hrv18 => ⟨rfl, ?_⟩⟩⟩
    have e18 : Same H17 H18 := made_same nx2 ndx2 hb18
    have hW2_18 : IsWorks K CW H18 x2 m R := ⟨dx2, rv, hx18, hrv18⟩
    have hh18 := hh17.same e18
    have hev18 := Dp.same e18 _ _ hev17
    refine ⟨gv, rfl, .ref a, rfl, .int (m : Int), rfl, ev, rfl, a, c, m, ev, es, rfl, hh18, m1, m6, hev18, oke, by omega, fun H19 u es' d19 du oke' le' => ?_⟩
    have hW2_19 := hW2_18.drew hh18 d19
    have hW19 := (hW17.same e18).drew hh18 d19
    have hR19 := (hR17.same e18).drew hh18 d19
    have hgv19 := Drew.data hh18 d19 (flat_T g) (Dp.same e18 _ _ hgv17)
    have hev19 := Drew.data hh18 d19 (flat_Es es) hev18
    have hh19 := d19.hand
    have x2ne : ∀ {r : Addr}, H19 r = none → r ≠ x2 := fun {r} n zz => by
      obtain ⟨_, _, h1, _⟩ := hW2_19
      rw [zz, h1] at n; cases n
    refine fun r2 dr2 nr2 ndr2 hne4 => ⟨r2, dr2, x2, m, gv, u, R, g, es', rfl, upd_same, hW2_19.same (mid_same nr2 ndr2), x2ne nr2, Dp.same (mid_same nr2 ndr2) _ _ hgv19, okg, by omega, Dp.same (mid_same nr2 ndr2) _ _ du, oke', by omega, fun H20 hb20 hr20 => ⟨rfl, ?_⟩⟩
    have e20 : Same H19 H20 := made_same nr2 ndr2 hb20
    have hW20 := hW19.same e20
    have hR20 := hR19.same e20
    have hgv20 := Dp.same e20 _ _ hgv19
    have hev20 := Dp.same e20 _ _ hev19
    have hev2_20 := Dp.same e20 _ _ du
    have hR2_20 : IsRec K CW CR H20 r2 m R g es' := ⟨dr2, x2, gv, u, hr20, hW2_19.same e20, hgv20, hev2_20⟩
    have hh20 := hh19.same e20
    refine ⟨.ref r, rfl, .ref x, rfl, gv, rfl, ev, rfl, fun r3 dr3 nr3 ndr3 hne5 => ⟨r3, dr3, x, m, gv, ev, R, g, es, rfl, upd_same, hW20.same (mid_same nr3 ndr3), xne hW20 nr3, Dp.same (mid_same nr3 ndr3) _ _ hgv20, okg, by omega, Dp.same (mid_same nr3 ndr3) _ _ hev20, oke, by omega, fun H21 hb21 hr21 => ⟨rfl, ?_⟩⟩⟩
    have e21 : Same H20 H21 := made_same nr3 ndr3 hb21
    have hR3_21 : IsRec K CW CR H21 r3 m R g es := ⟨dr3, x, gv, ev, hr21, hW20.same e21, Dp.same e21 _ _ hgv20, Dp.same e21 _ _ hev20⟩
    have hR21 := hR20.same e21
    obtain ⟨drr, war, gvr, evr, hr_21, _⟩ := id hR21
    refine ⟨r, drr, _, .ref CR, rfl, hr_21, tyI T.c_Record hr21, T.c_Record.nfo, r, .ref r3, m, R, g, es, rfl, hR21, .inl ⟨r3, es, rfl, hR3_21, fun H22 e22 => ⟨_, rfl, _, rfl, ?_⟩⟩⟩
    refine iteF' (by rw [eqv_same shE]; rfl) ?_
    have e20_22 := e21.trans e22
    have hR22 := hR20.same e20_22
    have hr22 := e22 _ _ hr_21
    have hr2_22 := e20_22 _ _ hr20
    refine ⟨.ref r, rfl, .ref r2, rfl, r, drr, _, .ref CR, rfl, hr22, tyI T.c_Record hr2_22, T.c_Record.nfo, r, .ref r2, m, R, g, es, rfl, hR22, .inl ⟨r2, es', rfl, hR2_20.same e20_22, fun H23 e23 => ⟨_, rfl, ?_⟩⟩⟩
    have e20_23 := e20_22.trans e23
    have hr2_23 := e20_23 _ _ hr20
    have shE' := shp_Es es'
    refine ⟨.ref r2, rfl, r2, CR, dr2, _, _, rfl, hr2_23, clR, T.n_events, rfl, ev, rfl, _, _, Dp.same e20_23 _ _ hev2_20, Dp.same e20_23 _ _ hev20, shp_shaped shE' (by decide), shp_shaped shE (by decide), ?_⟩
    refine ⟨rfl, _, rfl, iteF' ?_ ?_⟩
    · rw [PySem.W.eqv_comm (eEs es') (eEs es)]
      rw [if_neg Bool.false_ne_true, decide_eq_true rfl]; rfl
    have hW23 := hW20.same e20_23
    have hR23 := hR20.same e20_23
    have hr23 := e23 _ _ hr22
    refine ⟨.ref r, rfl, .ref x, rfl, gv, rfl, ev, rfl, zl3, fun tp ntp => ?_⟩
    have e24 := same_upd (o := .tup [V.ref x, gv, ev]) ntp
    have hR24 := hR23.same e24
    have ty24 : TyX K (upd H23 tp (.tup [V.ref x, gv, ev])) (.ref tp) (.type "tuple") := tyT (.inl (.inl upd_same))
    refine ⟨r, drr, _, .type "tuple", rfl, e24 _ _ hr23, ty24, T.c_Record.nf, r, .ref tp, m, R, g, es, rfl, hR24, .inr ⟨.type "tuple", ty24, T.c_Record.tup, false, rfl, _, rfl, iteF ?_⟩⟩
    obtain ⟨dw24, rw24, hw24, _⟩ := hW23.same e24
    have tyW := tyI T.c_Works hw24
    refine ⟨.ref r, rfl, .ref x, rfl, r, drr, _, .ref CW, rfl, e24 _ _ hr23, tyW, T.wr2, r, .ref x, m, R, g, es, rfl, hR24, .inr ⟨.ref CW, tyW, T.wr, false, rfl, _, rfl, iteF ?_⟩⟩
    exact ⟨_, _, _, _, _, _, _, _, _, _, _, _, _, rfl, (hh20.same e20_23).same e24⟩
end
end Kq
namespace Kq
open PySem PySem.Spec PyProof.Rows
open L2 hiding CX0 E0 pass0 Fun fun_mk Fun.ok Fun.binds defArgs defBody defScope
open C8

theorem law_mk {l : PySem.W.OpenLaw} {w : World} {K : PySem.W.Frag} {mg : Str → Option Value} {fa CW CR : Addr} (hfa : mg "law" = some (.ref fa)) (T : Tx K mg CW CR) :
    ∃ fd : FuncData, (∀ (s : Shared) (v : Value), BindsTo s fd ⟨[v], []⟩ [("_law_script", v)]) ∧ ∀ base : Heap, K.In base → base.Ns mainGlobals mg → FnOk l.prog w K mg base CX0 (lawK + 1) fa fd ["_law_script"] (spLaw K) := by
  obtain ⟨f, fd, F, df⟩ := T.d_law.ex
  have e := hfa.symm.trans F.mgf
  cases e
  refine ⟨fd, fun s v => ?_, fun base _ _ => ok_law T F⟩
  obtain ⟨oc, od, dV, kV, doc, pm, an, cdv, ct, osl, rfl, lk, hcd⟩ := F.fn.ex
  have e : dV = .none := df
  subst e
  exact .of_eq rfl
end Kq
open PySem PySem.W PyProof.Rows
set_option maxRecDepth 100000 in
set_option maxHeartbeats 0 in
theorem PySem.Challenge.cw_knownquiet_k35_whole_records_judged_holds : PySem.Challenge.rw_knownquiet_k35_whole_records_judged.Holds := by
  w_on; o_law; k_head; (case hw => w_witness2)
  k_fill
  refine L2.walk_of (l := PySem.Challenge.rw_knownquiet_k35_whole_records_judged) (n := 63) (k := Kq.lawK + 1) (x := "_law_script") (CX := fun _ => C8.CX0) (sp := fun w => Kq.spLaw _) rfl (by decide) rfl ⟨rfl, by decide, by decide⟩ (fun w h Y => PySem.W.kIn_of Y) ?F (fun _ _ a ns hl _ hS => ⟨a, ns, rfl, hS, hl, fun _ => rfl⟩) (fun _ _ _ _ _ h => h)
  case F =>
    intro w mg fa h KX G hmg
    refine' Kq.law_mk hmg (Kq.Tx.mk (CW := _) (CR := _)
      (Kq.defAt_mk KX G ?a_p_is_integer ?l_p_is_integer ?c_p_is_integer ?k_p_is_integer)
      (Kq.defAt_mk KX G ?a_p_is_within ?l_p_is_within ?c_p_is_within ?k_p_is_within)
      (Kq.defAt_mk KX G ?a_p_is_below ?l_p_is_below ?c_p_is_below ?k_p_is_below)
      (Kq.defAt_mk KX G ?a_p_is_sized ?l_p_is_sized ?c_p_is_sized ?k_p_is_sized)
      (Kq.defAt_mk KX G ?a_p_is_pair ?l_p_is_pair ?c_p_is_pair ?k_p_is_pair)
      (Kq.defAt_mk KX G ?a_p_replaced ?l_p_replaced ?c_p_replaced ?k_p_replaced)
      (Kq.defAt_mk KX G ?a_p_is_rule ?l_p_is_rule ?c_p_is_rule ?k_p_is_rule)
      (Kq.defAt_mk KX G ?a_p_is_right_task ?l_p_is_right_task ?c_p_is_right_task ?k_p_is_right_task)
      (Kq.defAt_mk KX G ?a_p_letters_of ?l_p_letters_of ?c_p_letters_of ?k_p_letters_of)
      (Kq.defAt_mk KX G ?a_p_are_tasks ?l_p_are_tasks ?c_p_are_tasks ?k_p_are_tasks)
      (Kq.defAt_mk KX G ?a_p_check_given ?l_p_check_given ?c_p_check_given ?k_p_check_given)
      (Kq.defAt_mk KX G ?a_p_begun ?l_p_begun ?c_p_begun ?k_p_begun)
      (Kq.defAt_mk KX G ?a_p_on_way ?l_p_on_way ?c_p_on_way ?k_p_on_way)
      (Kq.defAt_mk KX G ?a_p_with_way ?l_p_with_way ?c_p_with_way ?k_p_with_way)
      (Kq.defAt_mk KX G ?a_p_after_do ?l_p_after_do ?c_p_after_do ?k_p_after_do)
      (Kq.defAt_mk KX G ?a_p_after_hear ?l_p_after_hear ?c_p_after_hear ?k_p_after_hear)
      (Kq.defAt_mk KX G ?a_p_is_all_quiet ?l_p_is_all_quiet ?c_p_is_all_quiet ?k_p_is_all_quiet)
      (Kq.defAt_mk KX G ?a_p_is_event ?l_p_is_event ?c_p_is_event ?k_p_is_event)
      (Kq.defAt_mk KX G ?a_p_after_event ?l_p_after_event ?c_p_after_event ?k_p_after_event)
      (Kq.defAt_mk KX G ?a_p_standings_of ?l_p_standings_of ?c_p_standings_of ?k_p_standings_of)
      (Kq.defAt_mk KX G ?a_p_lies_of ?l_p_lies_of ?c_p_lies_of ?k_p_lies_of)
      (Kq.defAt_mk KX G ?a_p_first_wrong ?l_p_first_wrong ?c_p_first_wrong ?k_p_first_wrong)
      (Kq.defAt_mk KX G ?a_p_standing_at ?l_p_standing_at ?c_p_standing_at ?k_p_standing_at)
      (Kq.defAt_mk KX G ?a_p_quiet_from ?l_p_quiet_from ?c_p_quiet_from ?k_p_quiet_from)
      (Kq.defAt_mk KX G ?a_p_lies_in ?l_p_lies_in ?c_p_lies_in ?k_p_lies_in)
      (Kq.defAt_mk KX G ?a_l_hand ?l_l_hand ?c_l_hand ?k_l_hand)
      (Kq.defAt_mk KX G ?a_l_draw ?l_l_draw ?c_l_draw ?k_l_draw)
      (Kq.defAt_mk KX G ?a_l_any ?l_l_any ?c_l_any ?k_l_any)
      (Kq.defAt_mk KX G ?a_l_rules ?l_l_rules ?c_l_rules ?k_l_rules)
      (Kq.defAt_mk KX G ?a_l_many ?l_l_many ?c_l_many ?k_l_many)
      (Kq.defAt_mk KX G ?a_l_task ?l_l_task ?c_l_task ?k_l_task)
      (Kq.defAt_mk KX G ?a_l_sent ?l_l_sent ?c_l_sent ?k_l_sent)
      (Kq.defAt_mk KX G ?a_l_first ?l_l_first ?c_l_first ?k_l_first)
      (Kq.defAt_mk KX G ?a_l_step ?l_l_step ?c_l_step ?k_l_step)
      (Kq.defAt_mk KX G ?a_l_told ?l_l_told ?c_l_told ?k_l_told)
      (Kq.defAt_mk KX G ?a_l_is_quiet ?l_l_is_quiet ?c_l_is_quiet ?k_l_is_quiet)
      (Kq.defAt_mk KX G ?a_l_event ?l_l_event ?c_l_event ?k_l_event)
      (Kq.defAt_mk KX G ?a_l_run ?l_l_run ?c_l_run ?k_l_run)
      (Kq.defAt_mk KX G ?a_l_standings ?l_l_standings ?c_l_standings ?k_l_standings)
      (Kq.defAt_mk KX G ?a_l_bent ?l_l_bent ?c_l_bent ?k_l_bent)
      (Kq.defAt_mk KX G ?a_l_wrong ?l_l_wrong ?c_l_wrong ?k_l_wrong)
      (Kq.defAt_mk KX G ?a_law ?l_law ?c_law ?k_law)
      (Kq.klsAt_mk KX G ?aCWorks ?pgWorks ?hdWorks ?poWorks ?saWorks ?haWorks ?hnWorks ?htkWorks ?hmWorks ?mkWorks ?kcWorks ?neWorks ?kicWorks ?ktyWorks ?tupWorks ?nfWorks ?nfoWorks)
      (Kq.klsAt_mk KX G ?aCRecord ?pgRecord ?hdRecord ?poRecord ?saRecord ?haRecord ?hnRecord ?htkRecord ?hmRecord ?mkRecord ?kcRecord ?neRecord ?kicRecord ?ktyRecord ?tupRecord ?nfRecord ?nfoRecord)
      (Kq.methAt_mk ?maWorksinit ?miWorksinit ?mlWorksinit ?mcWorksinit ?mk_Worksinit)
      (Kq.methAt_mk ?maWorkseq ?miWorkseq ?mlWorkseq ?mcWorkseq ?mk_Workseq)
      (Kq.methAt_mk ?maRecordinit ?miRecordinit ?mlRecordinit ?mcRecordinit ?mk_Recordinit)
      (Kq.methAt_mk ?maRecordeq ?miRecordeq ?mlRecordeq ?mcRecordeq ?mk_Recordeq)
      (Kq.na_mk ?na_many)
      (Kq.na_mk ?na_rules)
      (Kq.na_mk ?na_ruled)
      (Kq.na_mk ?na_given)
      (Kq.na_mk ?na_events)
      (Kq.kit_ref ?wr_c ?wr_t ?wr_s ?wr_n)
      ?wr2
      (Kq.gv_mk KX G ?g_MOST_HOUSES ?r_MOST_HOUSES)
      (Kq.gv_mk KX G ?g_MOST_KINDS ?r_MOST_KINDS)
      (Kq.gv_mk KX G ?g_MOST_SENT ?r_MOST_SENT)
      (Kq.gv_mk KX G ?g_MOST_FUEL ?r_MOST_FUEL)
      (Kq.gv_mk KX G ?g_MOST_GIVEN ?r_MOST_GIVEN)
      (Kq.gv_mk KX G ?g_MOST_EVENTS ?r_MOST_EVENTS)
      (Kq.gv_mk KX G ?g_DO ?r_DO)
      (Kq.gv_mk KX G ?g_HEAR ?r_HEAR)
      (Kq.gv_mk KX G ?g_SAY ?r_SAY)
      (Kq.gt_mk KX G ?g_WATCHERS ?gl_WATCHERS ?gs_WATCHERS ?gv_WATCHERS)
      (Kq.gv_mk KX G ?g_IDLE ?r_IDLE)
      (Kq.gv_mk KX G ?g_EMPTY ?r_EMPTY)
      (Kq.gv_mk KX G ?g_LIE ?r_LIE)
      (PySem.W.mg_none_of KX G ?z_len)
      (PySem.W.mg_none_of KX G ?z_tuple)
      (PySem.W.mg_none_of KX G ?z_all)
      (PySem.W.mg_none_of KX G ?z_isinstance)
      (PySem.W.mg_none_of KX G ?z_int)
      (PySem.W.mg_none_of KX G ?z_bool)
      (PySem.W.mg_none_of KX G ?z_sorted)
      (PySem.W.mg_none_of KX G ?z_range)
      (PySem.W.mg_none_of KX G ?z_enumerate)
      (PySem.W.mg_none_of KX G ?z_sum)
      (PySem.W.mg_none_of KX G ?z_abs)
      (PySem.W.mg_none_of KX G ?z_list)
      (PySem.W.mg_none_of KX G ?z_dict)
      (PySem.W.mg_none_of KX G ?z_str))
    (case aCWorks => k_is)
    (case aCRecord => k_is)
    (case a_p_is_integer => k_is)
    (case l_p_is_integer => k_is)
    (case c_p_is_integer => k_is)
    (case k_p_is_integer => k_is)
    (case a_p_is_within => k_is)
    (case l_p_is_within => k_is)
    (case c_p_is_within => k_is)
    (case k_p_is_within => k_is)
    (case a_p_is_below => k_is)
    (case l_p_is_below => k_is)
    (case c_p_is_below => k_is)
    (case k_p_is_below => k_is)
    (case a_p_is_sized => k_is)
    (case l_p_is_sized => k_is)
    (case c_p_is_sized => k_is)
    (case k_p_is_sized => k_is)
    (case a_p_is_pair => k_is)
    (case l_p_is_pair => k_is)
    (case c_p_is_pair => k_is)
    (case k_p_is_pair => k_is)
    (case a_p_replaced => k_is)
    (case l_p_replaced => k_is)
    (case c_p_replaced => k_is)
    (case k_p_replaced => k_is)
    (case a_p_is_rule => k_is)
    (case l_p_is_rule => k_is)
    (case c_p_is_rule => k_is)
    (case k_p_is_rule => k_is)
    (case a_p_is_right_task => k_is)
    (case l_p_is_right_task => k_is)
    (case c_p_is_right_task => k_is)
    (case k_p_is_right_task => k_is)
    (case a_p_letters_of => k_is)
    (case l_p_letters_of => k_is)
    (case c_p_letters_of => k_is)
    (case k_p_letters_of => k_is)
    (case a_p_are_tasks => k_is)
    (case l_p_are_tasks => k_is)
    (case c_p_are_tasks => k_is)
    (case k_p_are_tasks => k_is)
    (case a_p_check_given => k_is)
    (case l_p_check_given => k_is)
    (case c_p_check_given => k_is)
    (case k_p_check_given => k_is)
    (case a_p_begun => k_is)
    (case l_p_begun => k_is)
    (case c_p_begun => k_is)
    (case k_p_begun => k_is)
    (case a_p_on_way => k_is)
    (case l_p_on_way => k_is)
    (case c_p_on_way => k_is)
    (case k_p_on_way => k_is)
    (case a_p_with_way => k_is)
    (case l_p_with_way => k_is)
    (case c_p_with_way => k_is)
    (case k_p_with_way => k_is)
    (case a_p_after_do => k_is)
    (case l_p_after_do => k_is)
    (case c_p_after_do => k_is)
    (case k_p_after_do => k_is)
    (case a_p_after_hear => k_is)
    (case l_p_after_hear => k_is)
    (case c_p_after_hear => k_is)
    (case k_p_after_hear => k_is)
    (case a_p_is_all_quiet => k_is)
    (case l_p_is_all_quiet => k_is)
    (case c_p_is_all_quiet => k_is)
    (case k_p_is_all_quiet => k_is)
    (case a_p_is_event => k_is)
    (case l_p_is_event => k_is)
    (case c_p_is_event => k_is)
    (case k_p_is_event => k_is)
    (case a_p_after_event => k_is)
    (case l_p_after_event => k_is)
    (case c_p_after_event => k_is)
    (case k_p_after_event => k_is)
    (case a_p_standings_of => k_is)
    (case l_p_standings_of => k_is)
    (case c_p_standings_of => k_is)
    (case k_p_standings_of => k_is)
    (case a_p_lies_of => k_is)
    (case l_p_lies_of => k_is)
    (case c_p_lies_of => k_is)
    (case k_p_lies_of => k_is)
    (case a_p_first_wrong => k_is)
    (case l_p_first_wrong => k_is)
    (case c_p_first_wrong => k_is)
    (case k_p_first_wrong => k_is)
    (case a_p_standing_at => k_is)
    (case l_p_standing_at => k_is)
    (case c_p_standing_at => k_is)
    (case k_p_standing_at => k_is)
    (case a_p_quiet_from => k_is)
    (case l_p_quiet_from => k_is)
    (case c_p_quiet_from => k_is)
    (case k_p_quiet_from => k_is)
    (case a_p_lies_in => k_is)
    (case l_p_lies_in => k_is)
    (case c_p_lies_in => k_is)
    (case k_p_lies_in => k_is)
    (case a_l_hand => k_is)
    (case l_l_hand => k_is)
    (case c_l_hand => k_is)
    (case k_l_hand => k_is)
    (case a_l_draw => k_is)
    (case l_l_draw => k_is)
    (case c_l_draw => k_is)
    (case k_l_draw => k_is)
    (case a_l_any => k_is)
    (case l_l_any => k_is)
    (case c_l_any => k_is)
    (case k_l_any => k_is)
    (case a_l_rules => k_is)
    (case l_l_rules => k_is)
    (case c_l_rules => k_is)
    (case k_l_rules => k_is)
    (case a_l_many => k_is)
    (case l_l_many => k_is)
    (case c_l_many => k_is)
    (case k_l_many => k_is)
    (case a_l_task => k_is)
    (case l_l_task => k_is)
    (case c_l_task => k_is)
    (case k_l_task => k_is)
    (case a_l_sent => k_is)
    (case l_l_sent => k_is)
    (case c_l_sent => k_is)
    (case k_l_sent => k_is)
    (case a_l_first => k_is)
    (case l_l_first => k_is)
    (case c_l_first => k_is)
    (case k_l_first => k_is)
    (case a_l_step => k_is)
    (case l_l_step => k_is)
    (case c_l_step => k_is)
    (case k_l_step => k_is)
    (case a_l_told => k_is)
    (case l_l_told => k_is)
    (case c_l_told => k_is)
    (case k_l_told => k_is)
    (case a_l_is_quiet => k_is)
    (case l_l_is_quiet => k_is)
    (case c_l_is_quiet => k_is)
    (case k_l_is_quiet => k_is)
    (case a_l_event => k_is)
    (case l_l_event => k_is)
    (case c_l_event => k_is)
    (case k_l_event => k_is)
    (case a_l_run => k_is)
    (case l_l_run => k_is)
    (case c_l_run => k_is)
    (case k_l_run => k_is)
    (case a_l_standings => k_is)
    (case l_l_standings => k_is)
    (case c_l_standings => k_is)
    (case k_l_standings => k_is)
    (case a_l_bent => k_is)
    (case l_l_bent => k_is)
    (case c_l_bent => k_is)
    (case k_l_bent => k_is)
    (case a_l_wrong => k_is)
    (case l_l_wrong => k_is)
    (case c_l_wrong => k_is)
    (case k_l_wrong => k_is)
    (case a_law => k_is)
    (case l_law => k_is)
    (case c_law => k_is)
    (case k_law => k_is)
    (case pgWorks => k_is)
    (case hdWorks => k_is)
    (case poWorks => k_is)
    (case saWorks => k_is)
    (case haWorks => k_is)
    (case hnWorks => k_is)
    (case htkWorks => k_is)
    (case hmWorks => k_is)
    (case mkWorks => k_is)
    (case kcWorks => k_is)
    (case neWorks => k_is)
    (case kicWorks => k_is)
    (case ktyWorks => k_is)
    (case tupWorks => k_is)
    (case nfWorks => k_is)
    (case nfoWorks => k_is)
    (case pgRecord => k_is)
    (case hdRecord => k_is)
    (case poRecord => k_is)
    (case saRecord => k_is)
    (case haRecord => k_is)
    (case hnRecord => k_is)
    (case htkRecord => k_is)
    (case hmRecord => k_is)
    (case mkRecord => k_is)
    (case kcRecord => k_is)
    (case neRecord => k_is)
    (case kicRecord => k_is)
    (case ktyRecord => k_is)
    (case tupRecord => k_is)
    (case nfRecord => k_is)
    (case nfoRecord => k_is)
    (case maWorksinit => k_is)
    (case miWorksinit => k_is)
    (case mlWorksinit => k_is)
    (case mcWorksinit => k_is)
    (case mk_Worksinit => k_is)
    (case maWorkseq => k_is)
    (case miWorkseq => k_is)
    (case mlWorkseq => k_is)
    (case mcWorkseq => k_is)
    (case mk_Workseq => k_is)
    (case maRecordinit => k_is)
    (case miRecordinit => k_is)
    (case mlRecordinit => k_is)
    (case mcRecordinit => k_is)
    (case mk_Recordinit => k_is)
    (case maRecordeq => k_is)
    (case miRecordeq => k_is)
    (case mlRecordeq => k_is)
    (case mcRecordeq => k_is)
    (case mk_Recordeq => k_is)
    (case na_many => k_is)
    (case na_rules => k_is)
    (case na_ruled => k_is)
    (case na_given => k_is)
    (case na_events => k_is)
    (case wr_c => k_is)
    (case wr_t => k_is)
    (case wr_s => k_is)
    (case wr_n => first | rfl | decide)
    (case wr2 => k_is)
    (case g_MOST_HOUSES => k_is)
    (case r_MOST_HOUSES => exact ⟨_, rfl⟩)
    (case g_MOST_KINDS => k_is)
    (case r_MOST_KINDS => exact ⟨_, rfl⟩)
    (case g_MOST_SENT => k_is)
    (case r_MOST_SENT => exact ⟨_, rfl⟩)
    (case g_MOST_FUEL => k_is)
    (case r_MOST_FUEL => exact ⟨_, rfl⟩)
    (case g_MOST_GIVEN => k_is)
    (case r_MOST_GIVEN => exact ⟨_, rfl⟩)
    (case g_MOST_EVENTS => k_is)
    (case r_MOST_EVENTS => exact ⟨_, rfl⟩)
    (case g_DO => k_is)
    (case r_DO => exact ⟨_, rfl⟩)
    (case g_HEAR => k_is)
    (case r_HEAR => exact ⟨_, rfl⟩)
    (case g_SAY => k_is)
    (case r_SAY => exact ⟨_, rfl⟩)
    (case g_WATCHERS => k_is)
    (case gl_WATCHERS => k_is)
    (case gs_WATCHERS => decide)
    (case gv_WATCHERS => exact .cons ⟨_, rfl⟩ (.cons ⟨_, rfl⟩ (.cons ⟨_, rfl⟩ .nil)))
    (case g_IDLE => k_is)
    (case r_IDLE => exact ⟨_, rfl⟩)
    (case g_EMPTY => k_is)
    (case r_EMPTY => exact ⟨_, rfl⟩)
    (case g_LIE => k_is)
    (case r_LIE => exact ⟨_, rfl⟩)
    (case z_len => k_is)
    (case z_tuple => k_is)
    (case z_all => k_is)
    (case z_isinstance => k_is)
    (case z_int => k_is)
    (case z_bool => k_is)
    (case z_sorted => k_is)
    (case z_range => k_is)
    (case z_enumerate => k_is)
    (case z_sum => k_is)
    (case z_abs => k_is)
    (case z_list => k_is)
    (case z_dict => k_is)
    (case z_str => k_is)
#print axioms PySem.Challenge.cw_knownquiet_k35_whole_records_judged_holds
